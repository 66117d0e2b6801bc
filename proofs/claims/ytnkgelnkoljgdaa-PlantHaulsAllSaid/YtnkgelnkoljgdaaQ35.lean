-- PRINTED by print.py (a twelfth state) out of the translation. Not trusted: Lean checks it.
import Derived.Test.YtnkgelnkoljgdaaPrs
import Derived.Test.YtnkgelnkoljgdaaQ0
import Derived.Test.YtnkgelnkoljgdaaQ1
import Derived.Test.YtnkgelnkoljgdaaQ7
import Derived.Test.YtnkgelnkoljgdaaQ13
import Derived.Test.YtnkgelnkoljgdaaQ22
import Derived.Test.YtnkgelnkoljgdaaQ31
import Derived.Test.YtnkgelnkoljgdaaQ34
namespace Go.Proofs.Ytnkgelnkoljgdaa.Q
open Go.RowKit Go.Proofs.YtnkgelnkoljgdaaPrs Go.Proofs.YtnkgelnkoljgdaaOwn Go.Proofs.YtnkgelnkoljgdaaW.PrintWords Go.Proofs.YtnkgelnkoljgdaaW.PrintLast Go.Proofs.YtnkgelnkoljgdaaW.PrintMore
open List renaming setIfInBounds_toArray → sI_, set_cons_zero → s0_, set_cons_succ → sS_
attribute [local go_sem] max2_int min2_int max_two min_two max_three min_three max_four min_four   -- for this text's walks alone
set_option linter.unusedVariables false
set_option linter.unusedSimpArgs false

/-! ### hinterlandlaw10_PlantHaulsAll: function 8 -/
def hinterlandlaw10_PlantHaulsAll.f (k : Nat) (l0 : List (S39)) (a1_0 : Int) (a1_1 : Int) (a1_2 : Int) (l1_3 : List Int) (l1_4 : List Int) (l1_5 : List Int) (l1_6 : List Int) (a1_7 : Int) (a1_8 : Int) (a1_9 : Bool) (a2 : Int) (a3 : Int) : Option (Bool) := (hinterlandlaw10_large.f k l0 a1_0 a1_1 a1_2 l1_3 l1_4 l1_5 l1_6 a1_7 a1_8 a1_9).bind fun t645 => (if t645 = true then ((hinterlandlaw10_known.f k).bind fun t646 => (some t646)) else ((plant_Haul.f k l0 a1_0 a1_1 a1_2 l1_3 l1_4 l1_5 l1_6 a1_7 a1_8 a1_9 a2 a3).bind fun bt647 => (if bt647.2.2.2.2.2.2.2.2.2.2.2 = 0 then ((plant_Haul.f k l0 bt647.1 bt647.2.1 bt647.2.2.1 bt647.2.2.2.1 bt647.2.2.2.2.1 bt647.2.2.2.2.2.1 bt647.2.2.2.2.2.2.1 bt647.2.2.2.2.2.2.2.1 bt647.2.2.2.2.2.2.2.2.1 bt647.2.2.2.2.2.2.2.2.2.1 a2 1000000).bind fun bt669 => ((plant_Haul.f k l0 a1_0 a1_1 a1_2 l1_3 l1_4 l1_5 l1_6 a1_7 a1_8 a1_9 a2 1000000).bind fun bt690 => (if bt669.2.2.2.2.2.2.2.2.2.2.2 = 0 then (if bt690.2.2.2.2.2.2.2.2.2.2.2 = 0 then (if bt647.2.2.2.2.2.2.2.2.2.2.1 ≥ 0 then (if bt647.2.2.2.2.2.2.2.2.2.2.1 ≤ a3 then ((hinterlandlaw10_total.f k bt647.2.2.2.1).bind fun t711 => ((hinterlandlaw10_total.f k l1_3).bind fun t712 => (if (wrap64 (t711 + bt647.2.2.2.2.2.2.2.2.2.2.1)) = t712 then (if (wrap64 (bt647.2.2.2.2.2.2.2.2.2.2.1 + bt669.2.2.2.2.2.2.2.2.2.2.1)) = bt690.2.2.2.2.2.2.2.2.2.2.1 then ((hinterlandsame_List_int.f k bt669.2.2.2.1 bt690.2.2.2.1).bind fun t713 => (if t713 = true then ((plant_Validate.f k l0 bt647.1 bt647.2.1 bt647.2.2.1 bt647.2.2.2.1 bt647.2.2.2.2.1 bt647.2.2.2.2.2.1 bt647.2.2.2.2.2.2.1 bt647.2.2.2.2.2.2.2.1 bt647.2.2.2.2.2.2.2.2.1 bt647.2.2.2.2.2.2.2.2.2.1).bind fun t714 => (if t714 = 0 then ((hinterlandlaw10_known.f k).bind fun t715 => (some t715)) else (some false))) else (some false))) else (some false)) else (some false)))) else (some false)) else (some false)) else (some false)) else (some false)))) else (if bt647.2.2.2.2.2.2.2.2.2.2.1 = 0 then ((hinterlandlaw10_known.f k).bind fun t668 => (some t668)) else (some false)))))
theorem hinterlandlaw10_PlantHaulsAll.mono : ∀ a0 a1 a2 a3 a4 a5 a6 a7 a8 a9 a10 a11 a12 k, LeO (hinterlandlaw10_PlantHaulsAll.f k a0 a1 a2 a3 a4 a5 a6 a7 a8 a9 a10 a11 a12) (hinterlandlaw10_PlantHaulsAll.f (k + 1) a0 a1 a2 a3 a4 a5 a6 a7 a8 a9 a10 a11 a12) := by
  intro a0 a1 a2 a3 a4 a5 a6 a7 a8 a9 a10 a11 a12 k
  unfold hinterlandlaw10_PlantHaulsAll.f
  repeat' first
      | (with_reducible first | exact hinterlandlaw10_known.mono _ | exact hinterlandlaw10_large.mono _ _ _ _ _ _ _ _ _ _ _ _ | exact hinterlandlaw10_total.mono _ _ | exact hinterlandsame_List_int.mono _ _ _ | exact plant_Haul.mono _ _ _ _ _ _ _ _ _ _ _ _ _ _ | exact plant_Validate.mono _ _ _ _ _ _ _ _ _ _ _ _ | exact LeO.refl _ | exact LeO.none _ | refine LeO.ite ?_ ?_ | refine LeO.bind ?_ (fun _ => ?_))
      | exact hinterlandlaw10_known.mono _
      | exact hinterlandlaw10_large.mono _ _ _ _ _ _ _ _ _ _ _ _
      | exact hinterlandlaw10_total.mono _ _
      | exact hinterlandsame_List_int.mono _ _ _
      | exact plant_Haul.mono _ _ _ _ _ _ _ _ _ _ _ _ _ _
      | exact plant_Validate.mono _ _ _ _ _ _ _ _ _ _ _ _
      | exact LeO.none _
      | refine LeO.ite ?_ ?_
      | refine LeO.bind ?_ (fun _ => ?_)
def hinterlandlaw10_PlantHaulsAll.T8 : Bool × List (List Nat × List Nat) := (true, [([], []), ([0], [0]), ([1], [1]), ([2], [2]), ([3, 2], [2, 3]), ([2, 4], [2, 4]), ([5, 2], [5]), ([6], [6]), ([7, 6], [6, 7]), ([6, 8], [6, 8]), ([9, 6], [9]), ([10], [10]), ([10], [10]), ([11, 12, 10], [10, 11, 12]), ([10, 13], [10, 13]), ([14, 10], [14]), ([15], [15]), ([16, 15], [15, 16]), ([17, 15, 15], [15, 17]), ([15], [15]), ([18, 19, 15], [15, 18, 19]), ([15], [15]), ([21, 15], [15, 21]), ([22, 18, 15], [15, 22]), ([20, 23, 15], [15, 20, 23]), ([15, 24], [15, 24]), ([25, 23], [25]), ([26], [26]), ([26], [26]), ([27, 28, 26], [26, 27, 28]), ([26], [26]), ([29, 30, 26], [26, 29, 30]), ([26, 31], [26, 31]), ([32, 26], [32]), ([33], [33]), ([34, 33], [33, 34]), ([33], [33]), ([36, 33], [33, 36]), ([35, 37, 33, 33], [33, 35, 37]), ([33, 38], [33, 38]), ([39, 38], [39]), ([40], [40]), ([40], [40]), ([41, 42, 40, 40], [40, 41, 42]), ([43, 40], [40, 43]), ([40, 44], [40, 44]), ([45, 43], [45]), ([46, 46], [46]), ([46, 47], [46, 47]), ([48, 47, 0, 1, 2, 3, 4, 5, 6, 7, 8, 9, 10, 11, 12, 13, 14, 15, 16, 17, 18, 19, 20, 21, 22, 23, 24, 25, 26, 27, 28, 29, 30, 31, 32, 33, 34, 35, 36, 37, 38, 39, 40, 41, 42, 43, 44, 45, 46, 47, 48], [48])])
def hinterlandlaw10_PlantHaulsAll.B8 : List Nat := [0, 1, 3, 7, 15, 31, 63, 127, 255, 511, 1023, 2047, 2047, 8191, 16383, 32767, 65535, 131071, 262143, 65535, 1048575, 65535, 2162687, 6815743, 16777215, 33554431, 67108863, 134217727, 134217727, 536870911, 134217727, 2147483647, 4294967295, 8589934591, 17179869183, 34359738367, 17179869183, 85899345919, 274877906943, 549755813887, 1099511627775, 2199023255551, 2199023255551, 8796093022207, 17592186044415, 35184372088831, 70368744177663, 140737488355327, 281474976710655, 562949953421311]
theorem hinterlandlaw10_PlantHaulsAll.tab8 : rtab .any (opsOf Try.f8 8) = hinterlandlaw10_PlantHaulsAll.T8 := by kernel_rfl
theorem hinterlandlaw10_PlantHaulsAll.bits8 : waitsOk hinterlandlaw10_PlantHaulsAll.T8.2 hinterlandlaw10_PlantHaulsAll.B8 = true := by kernel_rfl
set_option maxHeartbeats 8000000 in
set_option maxRecDepth 100000 in
theorem hinterlandlaw10_PlantHaulsAll.calls (k : Nat) (A0 : Option Addr) (c0 : Nat) (l0 : List (S39)) (a1_0 : Int) (a1_1 : Int) (a1_2 : Int) (A1_3 : Option Addr) (c1_3 : Nat) (l1_3 : List Int) (A1_4 : Option Addr) (c1_4 : Nat) (l1_4 : List Int) (A1_5 : Option Addr) (c1_5 : Nat) (l1_5 : List Int) (A1_6 : Option Addr) (c1_6 : Nat) (l1_6 : List Int) (a1_7 : Int) (a1_8 : Int) (a1_9 : Bool) (a2 : Int) (a3 : Int) (r : Bool) (w : World) (hr0 : Kd.C k39 w A0 l0.length l0) (hc0 : l0.length ≤ c0) (hr1_3 : Kd.C (Kd.int .i64) w A1_3 l1_3.length l1_3) (hc1_3 : l1_3.length ≤ c1_3) (hr1_4 : Kd.C (Kd.int .i64) w A1_4 l1_4.length l1_4) (hc1_4 : l1_4.length ≤ c1_4) (hr1_5 : Kd.C (Kd.int .i64) w A1_5 l1_5.length l1_5) (hc1_5 : l1_5.length ≤ c1_5) (hr1_6 : Kd.C (Kd.int .i64) w A1_6 l1_6.length l1_6) (hc1_6 : l1_6.length ≤ c1_6) (h : hinterlandlaw10_PlantHaulsAll.f k l0 a1_0 a1_1 a1_2 l1_3 l1_4 l1_5 l1_6 a1_7 a1_8 a1_9 a2 a3 = some r) :
    Calls Try.prog 8 #[.slice A0 l0.length c0, .agg #[.int .i64 a1_0, .int .i64 a1_1, .int .i64 a1_2, .slice A1_3 l1_3.length c1_3, .slice A1_4 l1_4.length c1_4, .slice A1_5 l1_5.length c1_5, .slice A1_6 l1_6.length c1_6, .int .i64 a1_7, .int .i64 a1_8, .bool a1_9], .int .i64 a2, .int .i64 a3] w fun e w' => e = .returned (.bool r) ∧ Below w.heap.size w w' := by
 have hu25 := Try.underlying25
 have HR0 := Aside0.mk hr0
 have HC0 := Aside0.mk hc0
 clear hr0 hc0
 have HR1_3 := Aside0.mk hr1_3
 have HC1_3 := Aside0.mk hc1_3
 clear hr1_3 hc1_3
 have HR1_4 := Aside0.mk hr1_4
 have HC1_4 := Aside0.mk hc1_4
 clear hr1_4 hc1_4
 have HR1_5 := Aside0.mk hr1_5
 have HC1_5 := Aside0.mk hc1_5
 clear hr1_5 hc1_5
 have HR1_6 := Aside0.mk hr1_6
 have HC1_6 := Aside0.mk hc1_6
 clear hr1_6 hc1_6
 have HB := Aside0.mk (Below.refl w.heap.size w)
 have H : ((hinterlandlaw10_large.f k l0 a1_0 a1_1 a1_2 l1_3 l1_4 l1_5 l1_6 a1_7 a1_8 a1_9).bind fun t645 => (if t645 = true then ((hinterlandlaw10_known.f k).bind fun t646 => (some t646)) else ((plant_Haul.f k l0 a1_0 a1_1 a1_2 l1_3 l1_4 l1_5 l1_6 a1_7 a1_8 a1_9 a2 a3).bind fun bt647 => (if bt647.2.2.2.2.2.2.2.2.2.2.2 = 0 then ((plant_Haul.f k l0 bt647.1 bt647.2.1 bt647.2.2.1 bt647.2.2.2.1 bt647.2.2.2.2.1 bt647.2.2.2.2.2.1 bt647.2.2.2.2.2.2.1 bt647.2.2.2.2.2.2.2.1 bt647.2.2.2.2.2.2.2.2.1 bt647.2.2.2.2.2.2.2.2.2.1 a2 1000000).bind fun bt669 => ((plant_Haul.f k l0 a1_0 a1_1 a1_2 l1_3 l1_4 l1_5 l1_6 a1_7 a1_8 a1_9 a2 1000000).bind fun bt690 => (if bt669.2.2.2.2.2.2.2.2.2.2.2 = 0 then (if bt690.2.2.2.2.2.2.2.2.2.2.2 = 0 then (if bt647.2.2.2.2.2.2.2.2.2.2.1 ≥ 0 then (if bt647.2.2.2.2.2.2.2.2.2.2.1 ≤ a3 then ((hinterlandlaw10_total.f k bt647.2.2.2.1).bind fun t711 => ((hinterlandlaw10_total.f k l1_3).bind fun t712 => (if (wrap64 (t711 + bt647.2.2.2.2.2.2.2.2.2.2.1)) = t712 then (if (wrap64 (bt647.2.2.2.2.2.2.2.2.2.2.1 + bt669.2.2.2.2.2.2.2.2.2.2.1)) = bt690.2.2.2.2.2.2.2.2.2.2.1 then ((hinterlandsame_List_int.f k bt669.2.2.2.1 bt690.2.2.2.1).bind fun t713 => (if t713 = true then ((plant_Validate.f k l0 bt647.1 bt647.2.1 bt647.2.2.1 bt647.2.2.2.1 bt647.2.2.2.2.1 bt647.2.2.2.2.2.1 bt647.2.2.2.2.2.2.1 bt647.2.2.2.2.2.2.2.1 bt647.2.2.2.2.2.2.2.2.1 bt647.2.2.2.2.2.2.2.2.2.1).bind fun t714 => (if t714 = 0 then ((hinterlandlaw10_known.f k).bind fun t715 => (some t715)) else (some false))) else (some false))) else (some false)) else (some false)))) else (some false)) else (some false)) else (some false)) else (some false)))) else (if bt647.2.2.2.2.2.2.2.2.2.2.1 = 0 then ((hinterlandlaw10_known.f k).bind fun t668 => (some t668)) else (some false)))))) = some r := h
 clear h
 replace H := Option.bind_eq_some_iff.mp H
 obtain ⟨t645, A50, H⟩ := H
 replace H : (if t645 = true then ((hinterlandlaw10_known.f k).bind fun t646 => (some t646)) else ((plant_Haul.f k l0 a1_0 a1_1 a1_2 l1_3 l1_4 l1_5 l1_6 a1_7 a1_8 a1_9 a2 a3).bind fun bt647 => (if bt647.2.2.2.2.2.2.2.2.2.2.2 = 0 then ((plant_Haul.f k l0 bt647.1 bt647.2.1 bt647.2.2.1 bt647.2.2.2.1 bt647.2.2.2.2.1 bt647.2.2.2.2.2.1 bt647.2.2.2.2.2.2.1 bt647.2.2.2.2.2.2.2.1 bt647.2.2.2.2.2.2.2.2.1 bt647.2.2.2.2.2.2.2.2.2.1 a2 1000000).bind fun bt669 => ((plant_Haul.f k l0 a1_0 a1_1 a1_2 l1_3 l1_4 l1_5 l1_6 a1_7 a1_8 a1_9 a2 1000000).bind fun bt690 => (if bt669.2.2.2.2.2.2.2.2.2.2.2 = 0 then (if bt690.2.2.2.2.2.2.2.2.2.2.2 = 0 then (if bt647.2.2.2.2.2.2.2.2.2.2.1 ≥ 0 then (if bt647.2.2.2.2.2.2.2.2.2.2.1 ≤ a3 then ((hinterlandlaw10_total.f k bt647.2.2.2.1).bind fun t711 => ((hinterlandlaw10_total.f k l1_3).bind fun t712 => (if (wrap64 (t711 + bt647.2.2.2.2.2.2.2.2.2.2.1)) = t712 then (if (wrap64 (bt647.2.2.2.2.2.2.2.2.2.2.1 + bt669.2.2.2.2.2.2.2.2.2.2.1)) = bt690.2.2.2.2.2.2.2.2.2.2.1 then ((hinterlandsame_List_int.f k bt669.2.2.2.1 bt690.2.2.2.1).bind fun t713 => (if t713 = true then ((plant_Validate.f k l0 bt647.1 bt647.2.1 bt647.2.2.1 bt647.2.2.2.1 bt647.2.2.2.2.1 bt647.2.2.2.2.2.1 bt647.2.2.2.2.2.2.1 bt647.2.2.2.2.2.2.2.1 bt647.2.2.2.2.2.2.2.2.1 bt647.2.2.2.2.2.2.2.2.2.1).bind fun t714 => (if t714 = 0 then ((hinterlandlaw10_known.f k).bind fun t715 => (some t715)) else (some false))) else (some false))) else (some false)) else (some false)))) else (some false)) else (some false)) else (some false)) else (some false)))) else (if bt647.2.2.2.2.2.2.2.2.2.2.1 = 0 then ((hinterlandlaw10_known.f k).bind fun t668 => (some t668)) else (some false))))) = some r := H
 have A5 := Aside0.mk A50
 clear A50
 by_cases c6 : t645 = true
 ·subst c6
  have H1 : ((hinterlandlaw10_known.f k).bind fun t646 => (some t646)) = some r := by rw [if_pos rfl] at H; exact H
  clear H
  have H := H1
  clear H1
  replace H := Option.bind_eq_some_iff.mp H
  obtain ⟨t646, A70, H⟩ := H
  replace H : (some t646) = some r := H
  have A7 := Aside0.mk A70
  clear A70
  obtain rfl := Option.some.inj H
  go_enter Try.func8, Try.ntmps8
  go_wp2_with (first | ((with_reducible refine gate_dst (N := 5) rfl ?_); refine box_event ?hg (N := 5) ?hd (cs := #[.int .i64 a1_0, .int .i64 a1_1, .int .i64 a1_2, .slice A1_3 l1_3.length c1_3, .slice A1_4 l1_4.length c1_4, .slice A1_5 l1_5.length c1_5, .slice A1_6 l1_6.length c1_6, .int .i64 a1_7, .int .i64 a1_8, .bool a1_9]) (t := 25) ?hr ?_; (case hd => rfl); (case hg => rfl); (case hr => first | (go_simp; done) | (go_simp; rfl)); intro gb644 hg w8 hbox hb; have BK644 := Aside0.mk (hbox); have GW644 := Aside0.mk ((dS_ hg (dL_ HB) : w.heap.size ≤ gb644)); have GE644 := Aside0.mk ((dS_ hg (dL_ HB) : w.heap.size ≤ gb644)); replace HB := Aside0.mk (below_step (dL_ HB) hb); clear hb hbox hg; obtain ⟨hcz9_0, hcz9_1, hcz9_2, hcz9_3, hcz9_4, hcz9_5, hcz9_6, hcz9_7, hcz9_8, hcz9_9, hfz9_0, hfz9_1, hfz9_2, hfz9_3, hfz9_4, hfz9_5, hfz9_6, hfz9_7, hfz9_8, hfz9_9⟩ := cs10_ BK644.out) | ((with_reducible refine gate_callee (f := 13) rfl ?_); refine goesL_ (some 20) rfl rfl Try.func13 (by kernel_rfl) rfl #[.slice A0 l0.length c0, .agg #[.int .i64 a1_0, .int .i64 a1_1, .int .i64 a1_2, .slice A1_3 l1_3.length c1_3, .slice A1_4 l1_4.length c1_4, .slice A1_5 l1_5.length c1_5, .slice A1_6 l1_6.length c1_6, .int .i64 a1_7, .int .i64 a1_8, .bool a1_9]] rfl tA_ ?_; (with_reducible refine (hinterlandlaw10_large.calls k _ _ l0 a1_0 a1_1 a1_2 _ _ l1_3 _ _ l1_4 _ _ l1_5 _ _ l1_6 a1_7 a1_8 a1_9 true _ ?side1 ?side2 ?side3 ?side4 ?side5 ?side6 ?side7 ?side8 ?side9 ?side10 A5.out).mono ?_); (case side1 => exact dC_ HR0 HB); (case side2 => exact HC0.out); (case side3 => exact dC_ HR1_3 HB); (case side4 => exact HC1_3.out); (case side5 => exact dC_ HR1_4 HB); (case side6 => exact HC1_4.out); (case side7 => exact dC_ HR1_5 HB); (case side8 => exact HC1_5.out); (case side9 => exact dC_ HR1_6 HB); (case side10 => exact HC1_6.out); rintro e w10 ⟨rfl, hb⟩; refine ⟨_, rfl, ?_⟩; replace BK644 := Aside0.mk (blk_below (g := gb644) (o := .cells #[.int .i64 a1_0, .int .i64 a1_1, .int .i64 a1_2, .slice A1_3 l1_3.length c1_3, .slice A1_4 l1_4.length c1_4, .slice A1_5 l1_5.length c1_5, .slice A1_6 l1_6.length c1_6, .int .i64 a1_7, .int .i64 a1_8, .bool a1_9] 25 (0, 0)) (dB_ BK644) hb); replace HB := Aside0.mk (below_step (dL1_ HB GE644) hb)) | ((with_reducible refine gate_callee (f := 14) rfl ?_); refine goesL_ (some 21) rfl rfl Try.func14 (by kernel_rfl) rfl #[] rfl tA_ ?_; (with_reducible refine (hinterlandlaw10_known.calls k  t646 _ A7.out).mono ?_); rintro e w11 ⟨rfl, hb⟩; refine ⟨_, rfl, ?_⟩; replace BK644 := Aside0.mk (blk_below (g := gb644) (o := .cells #[.int .i64 a1_0, .int .i64 a1_1, .int .i64 a1_2, .slice A1_3 l1_3.length c1_3, .slice A1_4 l1_4.length c1_4, .slice A1_5 l1_5.length c1_5, .slice A1_6 l1_6.length c1_6, .int .i64 a1_7, .int .i64 a1_8, .bool a1_9] 25 (0, 0)) (dB_ BK644) hb); replace HB := Aside0.mk (below_step (dL1_ HB GE644) hb)))
  go_ret
  exact ⟨tE_, dL1_ HB GE644⟩
 ·replace c6 := Bool.eq_false_iff.mpr c6
  subst c6
  have H1 : ((plant_Haul.f k l0 a1_0 a1_1 a1_2 l1_3 l1_4 l1_5 l1_6 a1_7 a1_8 a1_9 a2 a3).bind fun bt647 => (if bt647.2.2.2.2.2.2.2.2.2.2.2 = 0 then ((plant_Haul.f k l0 bt647.1 bt647.2.1 bt647.2.2.1 bt647.2.2.2.1 bt647.2.2.2.2.1 bt647.2.2.2.2.2.1 bt647.2.2.2.2.2.2.1 bt647.2.2.2.2.2.2.2.1 bt647.2.2.2.2.2.2.2.2.1 bt647.2.2.2.2.2.2.2.2.2.1 a2 1000000).bind fun bt669 => ((plant_Haul.f k l0 a1_0 a1_1 a1_2 l1_3 l1_4 l1_5 l1_6 a1_7 a1_8 a1_9 a2 1000000).bind fun bt690 => (if bt669.2.2.2.2.2.2.2.2.2.2.2 = 0 then (if bt690.2.2.2.2.2.2.2.2.2.2.2 = 0 then (if bt647.2.2.2.2.2.2.2.2.2.2.1 ≥ 0 then (if bt647.2.2.2.2.2.2.2.2.2.2.1 ≤ a3 then ((hinterlandlaw10_total.f k bt647.2.2.2.1).bind fun t711 => ((hinterlandlaw10_total.f k l1_3).bind fun t712 => (if (wrap64 (t711 + bt647.2.2.2.2.2.2.2.2.2.2.1)) = t712 then (if (wrap64 (bt647.2.2.2.2.2.2.2.2.2.2.1 + bt669.2.2.2.2.2.2.2.2.2.2.1)) = bt690.2.2.2.2.2.2.2.2.2.2.1 then ((hinterlandsame_List_int.f k bt669.2.2.2.1 bt690.2.2.2.1).bind fun t713 => (if t713 = true then ((plant_Validate.f k l0 bt647.1 bt647.2.1 bt647.2.2.1 bt647.2.2.2.1 bt647.2.2.2.2.1 bt647.2.2.2.2.2.1 bt647.2.2.2.2.2.2.1 bt647.2.2.2.2.2.2.2.1 bt647.2.2.2.2.2.2.2.2.1 bt647.2.2.2.2.2.2.2.2.2.1).bind fun t714 => (if t714 = 0 then ((hinterlandlaw10_known.f k).bind fun t715 => (some t715)) else (some false))) else (some false))) else (some false)) else (some false)))) else (some false)) else (some false)) else (some false)) else (some false)))) else (if bt647.2.2.2.2.2.2.2.2.2.2.1 = 0 then ((hinterlandlaw10_known.f k).bind fun t668 => (some t668)) else (some false)))) = some r := by rw [if_neg (show ¬ (false = true) by decide)] at H; exact H
  clear H
  have H := H1
  clear H1
  replace H := Option.bind_eq_some_iff.mp H
  obtain ⟨⟨t647, t648, t649, t650, t653, t656, t659, t662, t663, t664, t665, t666⟩, A120, H⟩ := H
  replace H : (if t666 = 0 then ((plant_Haul.f k l0 t647 t648 t649 t650 t653 t656 t659 t662 t663 t664 a2 1000000).bind fun bt669 => ((plant_Haul.f k l0 a1_0 a1_1 a1_2 l1_3 l1_4 l1_5 l1_6 a1_7 a1_8 a1_9 a2 1000000).bind fun bt690 => (if bt669.2.2.2.2.2.2.2.2.2.2.2 = 0 then (if bt690.2.2.2.2.2.2.2.2.2.2.2 = 0 then (if t665 ≥ 0 then (if t665 ≤ a3 then ((hinterlandlaw10_total.f k t650).bind fun t711 => ((hinterlandlaw10_total.f k l1_3).bind fun t712 => (if (wrap64 (t711 + t665)) = t712 then (if (wrap64 (t665 + bt669.2.2.2.2.2.2.2.2.2.2.1)) = bt690.2.2.2.2.2.2.2.2.2.2.1 then ((hinterlandsame_List_int.f k bt669.2.2.2.1 bt690.2.2.2.1).bind fun t713 => (if t713 = true then ((plant_Validate.f k l0 t647 t648 t649 t650 t653 t656 t659 t662 t663 t664).bind fun t714 => (if t714 = 0 then ((hinterlandlaw10_known.f k).bind fun t715 => (some t715)) else (some false))) else (some false))) else (some false)) else (some false)))) else (some false)) else (some false)) else (some false)) else (some false)))) else (if t665 = 0 then ((hinterlandlaw10_known.f k).bind fun t668 => (some t668)) else (some false))) = some r := H
  have A12 := Aside0.mk A120
  clear A120
  refine (Classical.em (t666 = 0)).elim (fun c13 => ?a26_) (fun c13 => ?b26_)
  case' a26_ =>
   rw [if_pos c13] at H
   have c13b0 : (t666 == 0) = true := beq_iff_eq.mpr c13
   have c13b1 : (t666 != 0) = false := bne_eq_false_iff_eq.mpr c13
   clear c13
   replace H := Option.bind_eq_some_iff.mp H
   obtain ⟨⟨t669, t670, t671, t672, t675, t678, t681, t684, t685, t686, t687, t688⟩, A140, H⟩ := H
   replace H : ((plant_Haul.f k l0 a1_0 a1_1 a1_2 l1_3 l1_4 l1_5 l1_6 a1_7 a1_8 a1_9 a2 1000000).bind fun bt690 => (if t688 = 0 then (if bt690.2.2.2.2.2.2.2.2.2.2.2 = 0 then (if t665 ≥ 0 then (if t665 ≤ a3 then ((hinterlandlaw10_total.f k t650).bind fun t711 => ((hinterlandlaw10_total.f k l1_3).bind fun t712 => (if (wrap64 (t711 + t665)) = t712 then (if (wrap64 (t665 + t687)) = bt690.2.2.2.2.2.2.2.2.2.2.1 then ((hinterlandsame_List_int.f k t672 bt690.2.2.2.1).bind fun t713 => (if t713 = true then ((plant_Validate.f k l0 t647 t648 t649 t650 t653 t656 t659 t662 t663 t664).bind fun t714 => (if t714 = 0 then ((hinterlandlaw10_known.f k).bind fun t715 => (some t715)) else (some false))) else (some false))) else (some false)) else (some false)))) else (some false)) else (some false)) else (some false)) else (some false))) = some r := H
   have A14 := Aside0.mk A140
   clear A140
   replace H := Option.bind_eq_some_iff.mp H
   obtain ⟨⟨t690, t691, t692, t693, t696, t699, t702, t705, t706, t707, t708, t709⟩, A150, H⟩ := H
   replace H : (if t688 = 0 then (if t709 = 0 then (if t665 ≥ 0 then (if t665 ≤ a3 then ((hinterlandlaw10_total.f k t650).bind fun t711 => ((hinterlandlaw10_total.f k l1_3).bind fun t712 => (if (wrap64 (t711 + t665)) = t712 then (if (wrap64 (t665 + t687)) = t708 then ((hinterlandsame_List_int.f k t672 t693).bind fun t713 => (if t713 = true then ((plant_Validate.f k l0 t647 t648 t649 t650 t653 t656 t659 t662 t663 t664).bind fun t714 => (if t714 = 0 then ((hinterlandlaw10_known.f k).bind fun t715 => (some t715)) else (some false))) else (some false))) else (some false)) else (some false)))) else (some false)) else (some false)) else (some false)) else (some false)) = some r := H
   have A15 := Aside0.mk A150
   clear A150
   refine (Classical.em (t688 = 0)).elim (fun c16 => ?a27_) (fun c16 => ?b27_)
   case' a27_ =>
    rw [if_pos c16] at H
    have c16b0 : (t688 == 0) = true := beq_iff_eq.mpr c16
    have c16b1 : (t688 != 0) = false := bne_eq_false_iff_eq.mpr c16
    clear c16
    refine (Classical.em (t709 = 0)).elim (fun c17 => ?a28_) (fun c17 => ?b28_)
    case' a28_ =>
     rw [if_pos c17] at H
     have c17b0 : (t709 == 0) = true := beq_iff_eq.mpr c17
     have c17b1 : (t709 != 0) = false := bne_eq_false_iff_eq.mpr c17
     clear c17
     refine (Classical.em (t665 ≥ 0)).elim (fun c18 => ?a29_) (fun c18 => ?b29_)
     case' a29_ =>
      rw [if_pos c18] at H
      have c18b0 : decide (0 ≤ t665) = true := decide_eq_true c18
      clear c18
      refine (Classical.em (t665 ≤ a3)).elim (fun c19 => ?a30_) (fun c19 => ?b30_)
      case' a30_ =>
       rw [if_pos c19] at H
       have c19b0 : decide (t665 ≤ a3) = true := decide_eq_true c19
       clear c19
       replace H := Option.bind_eq_some_iff.mp H
       obtain ⟨t711, A200, H⟩ := H
       replace H : ((hinterlandlaw10_total.f k l1_3).bind fun t712 => (if (wrap64 (t711 + t665)) = t712 then (if (wrap64 (t665 + t687)) = t708 then ((hinterlandsame_List_int.f k t672 t693).bind fun t713 => (if t713 = true then ((plant_Validate.f k l0 t647 t648 t649 t650 t653 t656 t659 t662 t663 t664).bind fun t714 => (if t714 = 0 then ((hinterlandlaw10_known.f k).bind fun t715 => (some t715)) else (some false))) else (some false))) else (some false)) else (some false))) = some r := H
       have A20 := Aside0.mk A200
       clear A200
       replace H := Option.bind_eq_some_iff.mp H
       obtain ⟨t712, A210, H⟩ := H
       replace H : (if (wrap64 (t711 + t665)) = t712 then (if (wrap64 (t665 + t687)) = t708 then ((hinterlandsame_List_int.f k t672 t693).bind fun t713 => (if t713 = true then ((plant_Validate.f k l0 t647 t648 t649 t650 t653 t656 t659 t662 t663 t664).bind fun t714 => (if t714 = 0 then ((hinterlandlaw10_known.f k).bind fun t715 => (some t715)) else (some false))) else (some false))) else (some false)) else (some false)) = some r := H
       have A21 := Aside0.mk A210
       clear A210
       refine (Classical.em ((wrap64 (t711 + t665)) = t712)).elim (fun c22 => ?a31_) (fun c22 => ?b31_)
       case' a31_ =>
        rw [if_pos c22] at H
        have c22b0 : ((wrap64 (t711 + t665)) == t712) = true := beq_iff_eq.mpr c22
        have c22b1 : ((wrap64 (t711 + t665)) != t712) = false := bne_eq_false_iff_eq.mpr c22
        clear c22
        refine (Classical.em ((wrap64 (t665 + t687)) = t708)).elim (fun c23 => ?a32_) (fun c23 => ?b32_)
        case' a32_ =>
         rw [if_pos c23] at H
         have c23b0 : ((wrap64 (t665 + t687)) == t708) = true := beq_iff_eq.mpr c23
         have c23b1 : ((wrap64 (t665 + t687)) != t708) = false := bne_eq_false_iff_eq.mpr c23
         clear c23
         replace H := Option.bind_eq_some_iff.mp H
         obtain ⟨t713, A240, H⟩ := H
         replace H : (if t713 = true then ((plant_Validate.f k l0 t647 t648 t649 t650 t653 t656 t659 t662 t663 t664).bind fun t714 => (if t714 = 0 then ((hinterlandlaw10_known.f k).bind fun t715 => (some t715)) else (some false))) else (some false)) = some r := H
         have A24 := Aside0.mk A240
         clear A240
         refine (Classical.em (t713 = true)).elim (fun c25 => ?a33_) (fun c25 => ?b33_)
         case' a33_ =>
          subst c25
          have H1 : ((plant_Validate.f k l0 t647 t648 t649 t650 t653 t656 t659 t662 t663 t664).bind fun t714 => (if t714 = 0 then ((hinterlandlaw10_known.f k).bind fun t715 => (some t715)) else (some false))) = some r := by rw [if_pos rfl] at H; exact H
          clear H
          have H := H1
          clear H1
          replace H := Option.bind_eq_some_iff.mp H
          obtain ⟨t714, A260, H⟩ := H
          replace H : (if t714 = 0 then ((hinterlandlaw10_known.f k).bind fun t715 => (some t715)) else (some false)) = some r := H
          have A26 := Aside0.mk A260
          clear A260
          refine (Classical.em (t714 = 0)).elim (fun c27 => ?a34_) (fun c27 => ?b34_)
          case' a34_ =>
           rw [if_pos c27] at H
           have c27b0 : (t714 == 0) = true := beq_iff_eq.mpr c27
           have c27b1 : (t714 != 0) = false := bne_eq_false_iff_eq.mpr c27
           clear c27
           replace H := Option.bind_eq_some_iff.mp H
           obtain ⟨t715, A280, H⟩ := H
           replace H : (some t715) = some r := H
           have A28 := Aside0.mk A280
           clear A280
           obtain rfl := Option.some.inj H
          case' b34_ =>
           rw [if_neg c27] at H
           have c27b0 : (t714 == 0) = false := beq_eq_false_iff_ne.mpr c27
           have c27b1 : (t714 != 0) = true := bne_iff_ne.mpr c27
           obtain rfl := Option.some.inj H
         case' b33_ =>
          replace c25 := Bool.eq_false_iff.mpr c25
          subst c25
          have H1 : (some false) = some r := by rw [if_neg (show ¬ (false = true) by decide)] at H; exact H
          clear H
          have H := H1
          clear H1
          obtain rfl := Option.some.inj H
        case' b32_ =>
         rw [if_neg c23] at H
         have c23b0 : ((wrap64 (t665 + t687)) == t708) = false := beq_eq_false_iff_ne.mpr c23
         have c23b1 : ((wrap64 (t665 + t687)) != t708) = true := bne_iff_ne.mpr c23
         obtain rfl := Option.some.inj H
       case' b31_ =>
        rw [if_neg c22] at H
        have c22b0 : ((wrap64 (t711 + t665)) == t712) = false := beq_eq_false_iff_ne.mpr c22
        have c22b1 : ((wrap64 (t711 + t665)) != t712) = true := bne_iff_ne.mpr c22
        obtain rfl := Option.some.inj H
      case' b30_ =>
       rw [if_neg c19] at H
       have c19b0 : decide (t665 ≤ a3) = false := decide_eq_false c19
       clear c19
       obtain rfl := Option.some.inj H
     case' b29_ =>
      rw [if_neg c18] at H
      have c18b0 : decide (0 ≤ t665) = false := decide_eq_false c18
      clear c18
      obtain rfl := Option.some.inj H
    case' b28_ =>
     rw [if_neg c17] at H
     have c17b0 : (t709 == 0) = false := beq_eq_false_iff_ne.mpr c17
     have c17b1 : (t709 != 0) = true := bne_iff_ne.mpr c17
     obtain rfl := Option.some.inj H
   case' b27_ =>
    rw [if_neg c16] at H
    have c16b0 : (t688 == 0) = false := beq_eq_false_iff_ne.mpr c16
    have c16b1 : (t688 != 0) = true := bne_iff_ne.mpr c16
    obtain rfl := Option.some.inj H
  case' b26_ =>
   rw [if_neg c13] at H
   have c13b0 : (t666 == 0) = false := beq_eq_false_iff_ne.mpr c13
   have c13b1 : (t666 != 0) = true := bne_iff_ne.mpr c13
   refine (Classical.em (t665 = 0)).elim (fun c338 => ?a35_) (fun c338 => ?b35_)
   case' a35_ =>
    rw [if_pos c338] at H
    have c338b0 : (t665 == 0) = true := beq_iff_eq.mpr c338
    have c338b1 : (t665 != 0) = false := bne_eq_false_iff_eq.mpr c338
    clear c338
    replace H := Option.bind_eq_some_iff.mp H
    obtain ⟨t668, A3390, H⟩ := H
    replace H : (some t668) = some r := H
    have A339 := Aside0.mk A3390
    clear A3390
    obtain rfl := Option.some.inj H
   case' b35_ =>
    rw [if_neg c338] at H
    have c338b0 : (t665 == 0) = false := beq_eq_false_iff_ne.mpr c338
    have c338b1 : (t665 != 0) = true := bne_iff_ne.mpr c338
    obtain rfl := Option.some.inj H
  all_goals (
   first
   | (go_enter Try.func8, Try.ntmps8
      try go_wp2_with (first | ((with_reducible refine gate_dst (N := 5) rfl ?_); refine box_event ?hg (N := 5) ?hd (cs := #[.int .i64 a1_0, .int .i64 a1_1, .int .i64 a1_2, .slice A1_3 l1_3.length c1_3, .slice A1_4 l1_4.length c1_4, .slice A1_5 l1_5.length c1_5, .slice A1_6 l1_6.length c1_6, .int .i64 a1_7, .int .i64 a1_8, .bool a1_9]) (t := 25) ?hr ?_; (case hd => rfl); (case hg => rfl); (case hr => first | (go_simp; done) | (go_simp; rfl)); intro gbz1 hg wz1 hbox hb; have nz1_ := Aside0.mk (below_step (dL_ HB) hb); have nz2_ := Aside0.mk (hbox); have nz3_ := Aside0.mk ((dS_ hg (dL_ HB) : w.heap.size ≤ gbz1)); have nz4_ := Aside0.mk ((dS_ hg (dL_ HB) : w.heap.size ≤ gbz1)); clear HB; have HB := nz1_; have BKz1 := nz2_; have GWz1 := nz3_; have GEz1 := nz4_; clear nz1_ nz2_ nz3_ nz4_; clear hb hbox hg; obtain ⟨hczz1_0, hczz1_1, hczz1_2, hczz1_3, hczz1_4, hczz1_5, hczz1_6, hczz1_7, hczz1_8, hczz1_9, hfzz1_0, hfzz1_1, hfzz1_2, hfzz1_3, hfzz1_4, hfzz1_5, hfzz1_6, hfzz1_7, hfzz1_8, hfzz1_9⟩ := cs10_ BKz1.out) | ((with_reducible refine gate_callee (f := 13) rfl ?_); refine goesL_ (some 20) rfl rfl Try.func13 (by kernel_rfl) rfl #[.slice A0 l0.length c0, .agg #[.int .i64 a1_0, .int .i64 a1_1, .int .i64 a1_2, .slice A1_3 l1_3.length c1_3, .slice A1_4 l1_4.length c1_4, .slice A1_5 l1_5.length c1_5, .slice A1_6 l1_6.length c1_6, .int .i64 a1_7, .int .i64 a1_8, .bool a1_9]] rfl tA_ ?_; (with_reducible refine (hinterlandlaw10_large.calls k _ _ l0 a1_0 a1_1 a1_2 _ _ l1_3 _ _ l1_4 _ _ l1_5 _ _ l1_6 a1_7 a1_8 a1_9 _ _ ?side1 ?side2 ?side3 ?side4 ?side5 ?side6 ?side7 ?side8 ?side9 ?side10 A5.out).mono ?_); (case side1 => exact dC_ HR0 HB); (case side2 => exact HC0.out); (case side3 => exact dC_ HR1_3 HB); (case side4 => exact HC1_3.out); (case side5 => exact dC_ HR1_4 HB); (case side6 => exact HC1_4.out); (case side7 => exact dC_ HR1_5 HB); (case side8 => exact HC1_5.out); (case side9 => exact dC_ HR1_6 HB); (case side10 => exact HC1_6.out); rintro e wz2 ⟨rfl, hb⟩; refine ⟨_, rfl, ?_⟩; have nz1_ := Aside0.mk (blk_below (g := gbz1) (o := .cells #[.int .i64 a1_0, .int .i64 a1_1, .int .i64 a1_2, .slice A1_3 l1_3.length c1_3, .slice A1_4 l1_4.length c1_4, .slice A1_5 l1_5.length c1_5, .slice A1_6 l1_6.length c1_6, .int .i64 a1_7, .int .i64 a1_8, .bool a1_9] 25 (0, 0)) (dB_ BKz1) hb); have nz2_ := Aside0.mk (below_step (dL1_ HB GEz1) hb); clear BKz1; clear HB; have BKz1 := nz1_; have HB := nz2_; clear nz1_ nz2_; obtain ⟨hczz2_0, hczz2_1, hczz2_2, hczz2_3, hczz2_4, hczz2_5, hczz2_6, hczz2_7, hczz2_8, hczz2_9, hfzz2_0, hfzz2_1, hfzz2_2, hfzz2_3, hfzz2_4, hfzz2_5, hfzz2_6, hfzz2_7, hfzz2_8, hfzz2_9⟩ := cs10_ BKz1.out) | ((with_reducible refine gate_callee (f := 22) rfl ?_); refine goesL_ (some 27) rfl rfl Try.func22 (by kernel_rfl) rfl #[.slice A0 l0.length c0, .agg #[.int .i64 a1_0, .int .i64 a1_1, .int .i64 a1_2, .slice A1_3 l1_3.length c1_3, .slice A1_4 l1_4.length c1_4, .slice A1_5 l1_5.length c1_5, .slice A1_6 l1_6.length c1_6, .int .i64 a1_7, .int .i64 a1_8, .bool a1_9], .int .i64 a2, .int .i64 a3] rfl tA_ ?_; (with_reducible refine (plant_Haul.calls k _ _ l0 a1_0 a1_1 a1_2 _ _ l1_3 _ _ l1_4 _ _ l1_5 _ _ l1_6 a1_7 a1_8 a1_9 a2 a3 t647 t648 t649 t650 t653 t656 t659 t662 t663 t664 t665 t666 _ ?side1 ?side2 ?side3 ?side4 ?side5 ?side6 ?side7 ?side8 ?side9 ?side10 A12.out).mono ?_); (case side1 => exact dC_ HR0 HB); (case side2 => exact HC0.out); (case side3 => exact dC_ HR1_3 HB); (case side4 => exact HC1_3.out); (case side5 => exact dC_ HR1_4 HB); (case side6 => exact HC1_4.out); (case side7 => exact dC_ HR1_5 HB); (case side8 => exact HC1_5.out); (case side9 => exact dC_ HR1_6 HB); (case side10 => exact HC1_6.out); rintro e wz3 ⟨vz1, vz2, vz3, vz4, rfl, hoz1, hoz2, hoz3, hoz4, hb⟩; refine ⟨_, rfl, ?_⟩; have nz1_ := Aside0.mk (Kd.R_lower hoz1 (below_size (dL1_ HB GEz1))); have nz2_ := Aside0.mk (Kd.R_lower hoz2 (below_size (dL1_ HB GEz1))); have nz3_ := Aside0.mk (Kd.R_lower hoz3 (below_size (dL1_ HB GEz1))); have nz4_ := Aside0.mk (Kd.R_lower hoz4 (below_size (dL1_ HB GEz1))); have nz5_ := Aside0.mk (blk_below (g := gbz1) (o := .cells #[.int .i64 a1_0, .int .i64 a1_1, .int .i64 a1_2, .slice A1_3 l1_3.length c1_3, .slice A1_4 l1_4.length c1_4, .slice A1_5 l1_5.length c1_5, .slice A1_6 l1_6.length c1_6, .int .i64 a1_7, .int .i64 a1_8, .bool a1_9] 25 (0, 0)) (dB_ BKz1) hb); have nz6_ := Aside0.mk (below_step (dL1_ HB GEz1) hb); clear BKz1; clear HB; have HOz1 := nz1_; have HOz2 := nz2_; have HOz3 := nz3_; have HOz4 := nz4_; have BKz1 := nz5_; have HB := nz6_; clear nz1_ nz2_ nz3_ nz4_ nz5_ nz6_) | ((with_reducible refine gate_dst (N := 9) rfl ?_); refine box_event ?hg (N := 9) ?hd (cs := #[.int .i64 0, .int .i64 0, .int .i64 0, .slice none 0 0, .slice none 0 0, .slice none 0 0, .slice none 0 0, .int .i64 0, .int .i64 0, .bool false]) (t := 25) ?hr ?_; (case hd => rfl); (case hg => rfl); (case hr => first | (go_simp; done) | (go_simp; rfl)); intro gbz2 hg wz4 hbox hb; have nz1_ := Aside0.mk (Kd.R_below (dR_ HOz1) hb); have nz2_ := Aside0.mk (Kd.R_below (dR_ HOz2) hb); have nz3_ := Aside0.mk (Kd.R_below (dR_ HOz3) hb); have nz4_ := Aside0.mk (Kd.R_below (dR_ HOz4) hb); have nz5_ := Aside0.mk (blk_below (g := gbz1) (o := .cells #[.int .i64 a1_0, .int .i64 a1_1, .int .i64 a1_2, .slice A1_3 l1_3.length c1_3, .slice A1_4 l1_4.length c1_4, .slice A1_5 l1_5.length c1_5, .slice A1_6 l1_6.length c1_6, .int .i64 a1_7, .int .i64 a1_8, .bool a1_9] 25 (0, 0)) (dB_ BKz1) hb); have nz6_ := Aside0.mk (below_step (dL1_ HB GEz1) hb); have nz7_ := Aside0.mk (hbox); have nz8_ := Aside0.mk ((dS_ hg (dL1_ HB GEz1) : w.heap.size ≤ gbz2)); have nz9_ := Aside0.mk ((dS_ hg (dL1_ HB GEz1) : w.heap.size ≤ gbz2)); have nz10_ := Aside0.mk ((by rw [hg]; exact Nat.ne_of_lt (blk_lt (dB_ BKz1)) : gbz1 ≠ gbz2)); have nz11_ := Aside0.mk ((by rw [hg]; exact Nat.ne_of_gt (blk_lt (dB_ BKz1)) : gbz2 ≠ gbz1)); clear HOz1; clear HOz2; clear HOz3; clear HOz4; clear BKz1; clear HB; have HOz1 := nz1_; have HOz2 := nz2_; have HOz3 := nz3_; have HOz4 := nz4_; have BKz1 := nz5_; have HB := nz6_; have BKz2 := nz7_; have GWz2 := nz8_; have GEz2 := nz9_; have NBz1_667 := nz10_; have NBz2_644 := nz11_; clear nz1_ nz2_ nz3_ nz4_ nz5_ nz6_ nz7_ nz8_ nz9_ nz10_ nz11_; clear hb hbox hg; have hnbz1 := NBz2_644.out; have hncz1 := NBz1_667.out; obtain ⟨hczz3_0, hczz3_1, hczz3_2, hczz3_3, hczz3_4, hczz3_5, hczz3_6, hczz3_7, hczz3_8, hczz3_9, hfzz3_0, hfzz3_1, hfzz3_2, hfzz3_3, hfzz3_4, hfzz3_5, hfzz3_6, hfzz3_7, hfzz3_8, hfzz3_9⟩ := cs10_ BKz2.out; obtain ⟨Aoz1, coz1, eoz1⟩ := Kd.R_slice HOz1.out; subst eoz1; obtain ⟨Aoz2, coz2, eoz2⟩ := Kd.R_slice HOz2.out; subst eoz2; obtain ⟨Aoz3, coz3, eoz3⟩ := Kd.R_slice HOz3.out; subst eoz3; obtain ⟨Aoz4, coz4, eoz4⟩ := Kd.R_slice HOz4.out; subst eoz4) | ((with_reducible refine gate_callee (f := 22) rfl ?_); refine goesL_ (some 42) rfl rfl Try.func22 (by kernel_rfl) rfl #[.slice A0 l0.length c0, .agg #[.int .i64 t647, .int .i64 t648, .int .i64 t649, .slice Aoz1 t650.length coz1, .slice Aoz2 t653.length coz2, .slice Aoz3 t656.length coz3, .slice Aoz4 t659.length coz4, .int .i64 t662, .int .i64 t663, .bool t664], .int .i64 a2, .int .i64 1000000] rfl tA_ ?_; (with_reducible refine (plant_Haul.calls k _ _ l0 t647 t648 t649 _ _ t650 _ _ t653 _ _ t656 _ _ t659 t662 t663 t664 a2 1000000 t669 t670 t671 t672 t675 t678 t681 t684 t685 t686 t687 t688 _ ?side1 ?side2 ?side3 ?side4 ?side5 ?side6 ?side7 ?side8 ?side9 ?side10 A14.out).mono ?_); (case side1 => exact Kd.C_below HR0.out (dL2_ HB GEz1 GEz2)); (case side2 => exact HC0.out); (case side3 => refine (Kd.R_reads' (e := 3) (base := w.heap.size) (ok := fun k_ => (some k_ ≠ (.slice Aoz2 t653.length coz2 : Value).ownBlock ∧ (some k_ ≠ (.slice Aoz3 t656.length coz3 : Value).ownBlock ∧ some k_ ≠ (.slice Aoz4 t659.length coz4 : Value).ownBlock))) (n := t650.length) (c := coz1) ?_).2.2; exact (by (with_reducible repeat (first | apply Kd.R_alloc | apply Kd.R_drewN | apply Kd.R_drew)); exact (Kd.R_mono (far10_ (Kd.R_types HOz1.out BKz2.out (by decide)) gbz2 (fun _ hk => hk.2) (.int .i64 t647) (.int .i64 t648) (.int .i64 t649) (.slice Aoz1 t650.length coz1) (.slice Aoz2 t653.length coz2) (.slice Aoz3 t656.length coz3) (.slice Aoz4 t659.length coz4) (.int .i64 t662) (.int .i64 t663) (.bool t664)) (fun _ h_ => h_.1)))); (case side4 => exact (Kd.R_reads' HOz1.out).2.1); (case side5 => refine (Kd.R_reads' (e := 3) (base := w.heap.size) (ok := fun k_ => (some k_ ≠ (.slice Aoz1 t650.length coz1 : Value).ownBlock ∧ (some k_ ≠ (.slice Aoz3 t656.length coz3 : Value).ownBlock ∧ some k_ ≠ (.slice Aoz4 t659.length coz4 : Value).ownBlock))) (n := t653.length) (c := coz2) ?_).2.2; exact (by (with_reducible repeat (first | apply Kd.R_alloc | apply Kd.R_drewN | apply Kd.R_drew)); exact (Kd.R_mono (far10_ (Kd.R_types HOz2.out BKz2.out (by decide)) gbz2 (fun _ hk => hk.2) (.int .i64 t647) (.int .i64 t648) (.int .i64 t649) (.slice Aoz1 t650.length coz1) (.slice Aoz2 t653.length coz2) (.slice Aoz3 t656.length coz3) (.slice Aoz4 t659.length coz4) (.int .i64 t662) (.int .i64 t663) (.bool t664)) (fun _ h_ => h_.1)))); (case side6 => exact (Kd.R_reads' HOz2.out).2.1); (case side7 => refine (Kd.R_reads' (e := 3) (base := w.heap.size) (ok := fun k_ => (some k_ ≠ (.slice Aoz1 t650.length coz1 : Value).ownBlock ∧ (some k_ ≠ (.slice Aoz2 t653.length coz2 : Value).ownBlock ∧ some k_ ≠ (.slice Aoz4 t659.length coz4 : Value).ownBlock))) (n := t656.length) (c := coz3) ?_).2.2; exact (by (with_reducible repeat (first | apply Kd.R_alloc | apply Kd.R_drewN | apply Kd.R_drew)); exact (Kd.R_mono (far10_ (Kd.R_types HOz3.out BKz2.out (by decide)) gbz2 (fun _ hk => hk.2) (.int .i64 t647) (.int .i64 t648) (.int .i64 t649) (.slice Aoz1 t650.length coz1) (.slice Aoz2 t653.length coz2) (.slice Aoz3 t656.length coz3) (.slice Aoz4 t659.length coz4) (.int .i64 t662) (.int .i64 t663) (.bool t664)) (fun _ h_ => h_.1)))); (case side8 => exact (Kd.R_reads' HOz3.out).2.1); (case side9 => refine (Kd.R_reads' (e := 3) (base := w.heap.size) (ok := fun k_ => (some k_ ≠ (.slice Aoz1 t650.length coz1 : Value).ownBlock ∧ (some k_ ≠ (.slice Aoz2 t653.length coz2 : Value).ownBlock ∧ some k_ ≠ (.slice Aoz3 t656.length coz3 : Value).ownBlock))) (n := t659.length) (c := coz4) ?_).2.2; exact (by (with_reducible repeat (first | apply Kd.R_alloc | apply Kd.R_drewN | apply Kd.R_drew)); exact (Kd.R_mono (far10_ (Kd.R_types HOz4.out BKz2.out (by decide)) gbz2 (fun _ hk => hk.2) (.int .i64 t647) (.int .i64 t648) (.int .i64 t649) (.slice Aoz1 t650.length coz1) (.slice Aoz2 t653.length coz2) (.slice Aoz3 t656.length coz3) (.slice Aoz4 t659.length coz4) (.int .i64 t662) (.int .i64 t663) (.bool t664)) (fun _ h_ => h_.1)))); (case side10 => exact (Kd.R_reads' HOz4.out).2.1); rintro e wz5 ⟨vz5, vz6, vz7, vz8, rfl, hoz1, hoz2, hoz3, hoz4, hb⟩; refine ⟨_, rfl, ?_⟩; have nz1_ := Aside0.mk (Kd.R_mono (Kd.R_told (Kd.R_told (Kd.R_told (Kd.R_told (Kd.R_old (by (with_reducible repeat (first | apply Kd.R_alloc | apply Kd.R_drewN | apply Kd.R_drew)); exact (Kd.R_mono (far10_ (Kd.R_types HOz1.out BKz2.out (by decide)) gbz2 (fun _ hk => hk.2) (.int .i64 t647) (.int .i64 t648) (.int .i64 t649) (.slice Aoz1 t650.length coz1) (.slice Aoz2 t653.length coz2) (.slice Aoz3 t656.length coz3) (.slice Aoz4 t659.length coz4) (.int .i64 t662) (.int .i64 t663) (.bool t664)) (fun _ h_ => h_.1))) hb) (Kd.R_base hoz1)) (Kd.R_base hoz2)) (Kd.R_base hoz3)) (Kd.R_base hoz4)) (fun _ h_ => h_.1)); have nz2_ := Aside0.mk (Kd.R_mono (Kd.R_told (Kd.R_told (Kd.R_told (Kd.R_told (Kd.R_old (by (with_reducible repeat (first | apply Kd.R_alloc | apply Kd.R_drewN | apply Kd.R_drew)); exact (Kd.R_mono (far10_ (Kd.R_types HOz2.out BKz2.out (by decide)) gbz2 (fun _ hk => hk.2) (.int .i64 t647) (.int .i64 t648) (.int .i64 t649) (.slice Aoz1 t650.length coz1) (.slice Aoz2 t653.length coz2) (.slice Aoz3 t656.length coz3) (.slice Aoz4 t659.length coz4) (.int .i64 t662) (.int .i64 t663) (.bool t664)) (fun _ h_ => h_.1))) hb) (Kd.R_base hoz1)) (Kd.R_base hoz2)) (Kd.R_base hoz3)) (Kd.R_base hoz4)) (fun _ h_ => h_.1)); have nz3_ := Aside0.mk (Kd.R_mono (Kd.R_told (Kd.R_told (Kd.R_told (Kd.R_told (Kd.R_old (by (with_reducible repeat (first | apply Kd.R_alloc | apply Kd.R_drewN | apply Kd.R_drew)); exact (Kd.R_mono (far10_ (Kd.R_types HOz3.out BKz2.out (by decide)) gbz2 (fun _ hk => hk.2) (.int .i64 t647) (.int .i64 t648) (.int .i64 t649) (.slice Aoz1 t650.length coz1) (.slice Aoz2 t653.length coz2) (.slice Aoz3 t656.length coz3) (.slice Aoz4 t659.length coz4) (.int .i64 t662) (.int .i64 t663) (.bool t664)) (fun _ h_ => h_.1))) hb) (Kd.R_base hoz1)) (Kd.R_base hoz2)) (Kd.R_base hoz3)) (Kd.R_base hoz4)) (fun _ h_ => h_.1)); have nz4_ := Aside0.mk (Kd.R_mono (Kd.R_told (Kd.R_told (Kd.R_told (Kd.R_told (Kd.R_old (by (with_reducible repeat (first | apply Kd.R_alloc | apply Kd.R_drewN | apply Kd.R_drew)); exact (Kd.R_mono (far10_ (Kd.R_types HOz4.out BKz2.out (by decide)) gbz2 (fun _ hk => hk.2) (.int .i64 t647) (.int .i64 t648) (.int .i64 t649) (.slice Aoz1 t650.length coz1) (.slice Aoz2 t653.length coz2) (.slice Aoz3 t656.length coz3) (.slice Aoz4 t659.length coz4) (.int .i64 t662) (.int .i64 t663) (.bool t664)) (fun _ h_ => h_.1))) hb) (Kd.R_base hoz1)) (Kd.R_base hoz2)) (Kd.R_base hoz3)) (Kd.R_base hoz4)) (fun _ h_ => h_.1)); have nz5_ := Aside0.mk (Kd.R_lower (Kd.R_new' (Kd.R_new' (Kd.R_new' (Kd.R_new' hoz1 (Kd.R_lt (by (with_reducible repeat (first | apply Kd.R_alloc | apply Kd.R_drewN | apply Kd.R_drew)); exact (Kd.R_mono (far10_ (Kd.R_types HOz1.out BKz2.out (by decide)) gbz2 (fun _ hk => hk.2) (.int .i64 t647) (.int .i64 t648) (.int .i64 t649) (.slice Aoz1 t650.length coz1) (.slice Aoz2 t653.length coz2) (.slice Aoz3 t656.length coz3) (.slice Aoz4 t659.length coz4) (.int .i64 t662) (.int .i64 t663) (.bool t664)) (fun _ h_ => h_.1))))) (Kd.R_lt (by (with_reducible repeat (first | apply Kd.R_alloc | apply Kd.R_drewN | apply Kd.R_drew)); exact (Kd.R_mono (far10_ (Kd.R_types HOz2.out BKz2.out (by decide)) gbz2 (fun _ hk => hk.2) (.int .i64 t647) (.int .i64 t648) (.int .i64 t649) (.slice Aoz1 t650.length coz1) (.slice Aoz2 t653.length coz2) (.slice Aoz3 t656.length coz3) (.slice Aoz4 t659.length coz4) (.int .i64 t662) (.int .i64 t663) (.bool t664)) (fun _ h_ => h_.1))))) (Kd.R_lt (by (with_reducible repeat (first | apply Kd.R_alloc | apply Kd.R_drewN | apply Kd.R_drew)); exact (Kd.R_mono (far10_ (Kd.R_types HOz3.out BKz2.out (by decide)) gbz2 (fun _ hk => hk.2) (.int .i64 t647) (.int .i64 t648) (.int .i64 t649) (.slice Aoz1 t650.length coz1) (.slice Aoz2 t653.length coz2) (.slice Aoz3 t656.length coz3) (.slice Aoz4 t659.length coz4) (.int .i64 t662) (.int .i64 t663) (.bool t664)) (fun _ h_ => h_.1))))) (Kd.R_lt (by (with_reducible repeat (first | apply Kd.R_alloc | apply Kd.R_drewN | apply Kd.R_drew)); exact (Kd.R_mono (far10_ (Kd.R_types HOz4.out BKz2.out (by decide)) gbz2 (fun _ hk => hk.2) (.int .i64 t647) (.int .i64 t648) (.int .i64 t649) (.slice Aoz1 t650.length coz1) (.slice Aoz2 t653.length coz2) (.slice Aoz3 t656.length coz3) (.slice Aoz4 t659.length coz4) (.int .i64 t662) (.int .i64 t663) (.bool t664)) (fun _ h_ => h_.1))))) (below_size (dL2_ HB GEz1 GEz2))); have nz6_ := Aside0.mk (Kd.R_lower (Kd.R_new' (Kd.R_new' (Kd.R_new' (Kd.R_new' hoz2 (Kd.R_lt (by (with_reducible repeat (first | apply Kd.R_alloc | apply Kd.R_drewN | apply Kd.R_drew)); exact (Kd.R_mono (far10_ (Kd.R_types HOz1.out BKz2.out (by decide)) gbz2 (fun _ hk => hk.2) (.int .i64 t647) (.int .i64 t648) (.int .i64 t649) (.slice Aoz1 t650.length coz1) (.slice Aoz2 t653.length coz2) (.slice Aoz3 t656.length coz3) (.slice Aoz4 t659.length coz4) (.int .i64 t662) (.int .i64 t663) (.bool t664)) (fun _ h_ => h_.1))))) (Kd.R_lt (by (with_reducible repeat (first | apply Kd.R_alloc | apply Kd.R_drewN | apply Kd.R_drew)); exact (Kd.R_mono (far10_ (Kd.R_types HOz2.out BKz2.out (by decide)) gbz2 (fun _ hk => hk.2) (.int .i64 t647) (.int .i64 t648) (.int .i64 t649) (.slice Aoz1 t650.length coz1) (.slice Aoz2 t653.length coz2) (.slice Aoz3 t656.length coz3) (.slice Aoz4 t659.length coz4) (.int .i64 t662) (.int .i64 t663) (.bool t664)) (fun _ h_ => h_.1))))) (Kd.R_lt (by (with_reducible repeat (first | apply Kd.R_alloc | apply Kd.R_drewN | apply Kd.R_drew)); exact (Kd.R_mono (far10_ (Kd.R_types HOz3.out BKz2.out (by decide)) gbz2 (fun _ hk => hk.2) (.int .i64 t647) (.int .i64 t648) (.int .i64 t649) (.slice Aoz1 t650.length coz1) (.slice Aoz2 t653.length coz2) (.slice Aoz3 t656.length coz3) (.slice Aoz4 t659.length coz4) (.int .i64 t662) (.int .i64 t663) (.bool t664)) (fun _ h_ => h_.1))))) (Kd.R_lt (by (with_reducible repeat (first | apply Kd.R_alloc | apply Kd.R_drewN | apply Kd.R_drew)); exact (Kd.R_mono (far10_ (Kd.R_types HOz4.out BKz2.out (by decide)) gbz2 (fun _ hk => hk.2) (.int .i64 t647) (.int .i64 t648) (.int .i64 t649) (.slice Aoz1 t650.length coz1) (.slice Aoz2 t653.length coz2) (.slice Aoz3 t656.length coz3) (.slice Aoz4 t659.length coz4) (.int .i64 t662) (.int .i64 t663) (.bool t664)) (fun _ h_ => h_.1))))) (below_size (dL2_ HB GEz1 GEz2))); have nz7_ := Aside0.mk (Kd.R_lower (Kd.R_new' (Kd.R_new' (Kd.R_new' (Kd.R_new' hoz3 (Kd.R_lt (by (with_reducible repeat (first | apply Kd.R_alloc | apply Kd.R_drewN | apply Kd.R_drew)); exact (Kd.R_mono (far10_ (Kd.R_types HOz1.out BKz2.out (by decide)) gbz2 (fun _ hk => hk.2) (.int .i64 t647) (.int .i64 t648) (.int .i64 t649) (.slice Aoz1 t650.length coz1) (.slice Aoz2 t653.length coz2) (.slice Aoz3 t656.length coz3) (.slice Aoz4 t659.length coz4) (.int .i64 t662) (.int .i64 t663) (.bool t664)) (fun _ h_ => h_.1))))) (Kd.R_lt (by (with_reducible repeat (first | apply Kd.R_alloc | apply Kd.R_drewN | apply Kd.R_drew)); exact (Kd.R_mono (far10_ (Kd.R_types HOz2.out BKz2.out (by decide)) gbz2 (fun _ hk => hk.2) (.int .i64 t647) (.int .i64 t648) (.int .i64 t649) (.slice Aoz1 t650.length coz1) (.slice Aoz2 t653.length coz2) (.slice Aoz3 t656.length coz3) (.slice Aoz4 t659.length coz4) (.int .i64 t662) (.int .i64 t663) (.bool t664)) (fun _ h_ => h_.1))))) (Kd.R_lt (by (with_reducible repeat (first | apply Kd.R_alloc | apply Kd.R_drewN | apply Kd.R_drew)); exact (Kd.R_mono (far10_ (Kd.R_types HOz3.out BKz2.out (by decide)) gbz2 (fun _ hk => hk.2) (.int .i64 t647) (.int .i64 t648) (.int .i64 t649) (.slice Aoz1 t650.length coz1) (.slice Aoz2 t653.length coz2) (.slice Aoz3 t656.length coz3) (.slice Aoz4 t659.length coz4) (.int .i64 t662) (.int .i64 t663) (.bool t664)) (fun _ h_ => h_.1))))) (Kd.R_lt (by (with_reducible repeat (first | apply Kd.R_alloc | apply Kd.R_drewN | apply Kd.R_drew)); exact (Kd.R_mono (far10_ (Kd.R_types HOz4.out BKz2.out (by decide)) gbz2 (fun _ hk => hk.2) (.int .i64 t647) (.int .i64 t648) (.int .i64 t649) (.slice Aoz1 t650.length coz1) (.slice Aoz2 t653.length coz2) (.slice Aoz3 t656.length coz3) (.slice Aoz4 t659.length coz4) (.int .i64 t662) (.int .i64 t663) (.bool t664)) (fun _ h_ => h_.1))))) (below_size (dL2_ HB GEz1 GEz2))); have nz8_ := Aside0.mk (Kd.R_lower (Kd.R_new' (Kd.R_new' (Kd.R_new' (Kd.R_new' hoz4 (Kd.R_lt (by (with_reducible repeat (first | apply Kd.R_alloc | apply Kd.R_drewN | apply Kd.R_drew)); exact (Kd.R_mono (far10_ (Kd.R_types HOz1.out BKz2.out (by decide)) gbz2 (fun _ hk => hk.2) (.int .i64 t647) (.int .i64 t648) (.int .i64 t649) (.slice Aoz1 t650.length coz1) (.slice Aoz2 t653.length coz2) (.slice Aoz3 t656.length coz3) (.slice Aoz4 t659.length coz4) (.int .i64 t662) (.int .i64 t663) (.bool t664)) (fun _ h_ => h_.1))))) (Kd.R_lt (by (with_reducible repeat (first | apply Kd.R_alloc | apply Kd.R_drewN | apply Kd.R_drew)); exact (Kd.R_mono (far10_ (Kd.R_types HOz2.out BKz2.out (by decide)) gbz2 (fun _ hk => hk.2) (.int .i64 t647) (.int .i64 t648) (.int .i64 t649) (.slice Aoz1 t650.length coz1) (.slice Aoz2 t653.length coz2) (.slice Aoz3 t656.length coz3) (.slice Aoz4 t659.length coz4) (.int .i64 t662) (.int .i64 t663) (.bool t664)) (fun _ h_ => h_.1))))) (Kd.R_lt (by (with_reducible repeat (first | apply Kd.R_alloc | apply Kd.R_drewN | apply Kd.R_drew)); exact (Kd.R_mono (far10_ (Kd.R_types HOz3.out BKz2.out (by decide)) gbz2 (fun _ hk => hk.2) (.int .i64 t647) (.int .i64 t648) (.int .i64 t649) (.slice Aoz1 t650.length coz1) (.slice Aoz2 t653.length coz2) (.slice Aoz3 t656.length coz3) (.slice Aoz4 t659.length coz4) (.int .i64 t662) (.int .i64 t663) (.bool t664)) (fun _ h_ => h_.1))))) (Kd.R_lt (by (with_reducible repeat (first | apply Kd.R_alloc | apply Kd.R_drewN | apply Kd.R_drew)); exact (Kd.R_mono (far10_ (Kd.R_types HOz4.out BKz2.out (by decide)) gbz2 (fun _ hk => hk.2) (.int .i64 t647) (.int .i64 t648) (.int .i64 t649) (.slice Aoz1 t650.length coz1) (.slice Aoz2 t653.length coz2) (.slice Aoz3 t656.length coz3) (.slice Aoz4 t659.length coz4) (.int .i64 t662) (.int .i64 t663) (.bool t664)) (fun _ h_ => h_.1))))) (below_size (dL2_ HB GEz1 GEz2))); have nz9_ := Aside0.mk (blk_below (g := gbz1) (o := .cells #[.int .i64 a1_0, .int .i64 a1_1, .int .i64 a1_2, .slice A1_3 l1_3.length c1_3, .slice A1_4 l1_4.length c1_4, .slice A1_5 l1_5.length c1_5, .slice A1_6 l1_6.length c1_6, .int .i64 a1_7, .int .i64 a1_8, .bool a1_9] 25 (0, 0)) (dF10_ BKz1 NBz1_667) hb); have nz10_ := Aside0.mk (blk_below (g := gbz2) (o := .cells #[.int .i64 t647, .int .i64 t648, .int .i64 t649, .slice Aoz1 t650.length coz1, .slice Aoz2 t653.length coz2, .slice Aoz3 t656.length coz3, .slice Aoz4 t659.length coz4, .int .i64 t662, .int .i64 t663, .bool t664] 25 (0, 0)) (dP10_ BKz2) hb); have nz11_ := Aside0.mk (below_step (dL2_ HB GEz1 GEz2) hb); clear HOz1; clear HOz2; clear HOz3; clear HOz4; clear BKz1; clear BKz2; clear HB; have HOz1 := nz1_; have HOz2 := nz2_; have HOz3 := nz3_; have HOz4 := nz4_; have HOz5 := nz5_; have HOz6 := nz6_; have HOz7 := nz7_; have HOz8 := nz8_; have BKz1 := nz9_; have BKz2 := nz10_; have HB := nz11_; clear nz1_ nz2_ nz3_ nz4_ nz5_ nz6_ nz7_ nz8_ nz9_ nz10_ nz11_) | ((with_reducible refine gate_dst (N := 12) rfl ?_); refine box_event ?hg (N := 12) ?hd (cs := #[.int .i64 0, .int .i64 0, .int .i64 0, .slice none 0 0, .slice none 0 0, .slice none 0 0, .slice none 0 0, .int .i64 0, .int .i64 0, .bool false]) (t := 25) ?hr ?_; (case hd => rfl); (case hg => rfl); (case hr => first | (go_simp; done) | (go_simp; rfl)); intro gbz3 hg wz6 hbox hb; have nz1_ := Aside0.mk (Kd.R_below (dR_ HOz1) hb); have nz2_ := Aside0.mk (Kd.R_below (dR_ HOz2) hb); have nz3_ := Aside0.mk (Kd.R_below (dR_ HOz3) hb); have nz4_ := Aside0.mk (Kd.R_below (dR_ HOz4) hb); have nz5_ := Aside0.mk (Kd.R_below (dR_ HOz5) hb); have nz6_ := Aside0.mk (Kd.R_below (dR_ HOz6) hb); have nz7_ := Aside0.mk (Kd.R_below (dR_ HOz7) hb); have nz8_ := Aside0.mk (Kd.R_below (dR_ HOz8) hb); have nz9_ := Aside0.mk (blk_below (g := gbz1) (o := .cells #[.int .i64 a1_0, .int .i64 a1_1, .int .i64 a1_2, .slice A1_3 l1_3.length c1_3, .slice A1_4 l1_4.length c1_4, .slice A1_5 l1_5.length c1_5, .slice A1_6 l1_6.length c1_6, .int .i64 a1_7, .int .i64 a1_8, .bool a1_9] 25 (0, 0)) (dB_ BKz1) hb); have nz10_ := Aside0.mk (blk_below (g := gbz2) (o := .cells #[.int .i64 t647, .int .i64 t648, .int .i64 t649, .slice Aoz1 t650.length coz1, .slice Aoz2 t653.length coz2, .slice Aoz3 t656.length coz3, .slice Aoz4 t659.length coz4, .int .i64 t662, .int .i64 t663, .bool t664] 25 (0, 0)) (dB_ BKz2) hb); have nz11_ := Aside0.mk (below_step (dL2_ HB GEz1 GEz2) hb); have nz12_ := Aside0.mk (hbox); have nz13_ := Aside0.mk ((dS_ hg (dL2_ HB GEz1 GEz2) : w.heap.size ≤ gbz3)); have nz14_ := Aside0.mk ((dS_ hg (dL2_ HB GEz1 GEz2) : w.heap.size ≤ gbz3)); have nz15_ := Aside0.mk ((by rw [hg]; exact Nat.ne_of_lt (blk_lt (dB_ BKz1)) : gbz1 ≠ gbz3)); have nz16_ := Aside0.mk ((by rw [hg]; exact Nat.ne_of_gt (blk_lt (dB_ BKz1)) : gbz3 ≠ gbz1)); have nz17_ := Aside0.mk ((by rw [hg]; exact Nat.ne_of_lt (blk_lt (dB_ BKz2)) : gbz2 ≠ gbz3)); have nz18_ := Aside0.mk ((by rw [hg]; exact Nat.ne_of_gt (blk_lt (dB_ BKz2)) : gbz3 ≠ gbz2)); clear HOz1; clear HOz2; clear HOz3; clear HOz4; clear HOz5; clear HOz6; clear HOz7; clear HOz8; clear BKz1; clear BKz2; clear HB; have HOz1 := nz1_; have HOz2 := nz2_; have HOz3 := nz3_; have HOz4 := nz4_; have HOz5 := nz5_; have HOz6 := nz6_; have HOz7 := nz7_; have HOz8 := nz8_; have BKz1 := nz9_; have BKz2 := nz10_; have HB := nz11_; have BKz3 := nz12_; have GWz3 := nz13_; have GEz3 := nz14_; have NBz1_689 := nz15_; have NBz3_644 := nz16_; have NBz2_689 := nz17_; have NBz3_667 := nz18_; clear nz1_ nz2_ nz3_ nz4_ nz5_ nz6_ nz7_ nz8_ nz9_ nz10_ nz11_ nz12_ nz13_ nz14_ nz15_ nz16_ nz17_ nz18_; clear hb hbox hg; have hnbz2 := NBz3_644.out; have hncz2 := NBz1_689.out; have hnbz3 := NBz3_667.out; have hncz3 := NBz2_689.out; obtain ⟨hczz4_0, hczz4_1, hczz4_2, hczz4_3, hczz4_4, hczz4_5, hczz4_6, hczz4_7, hczz4_8, hczz4_9, hfzz4_0, hfzz4_1, hfzz4_2, hfzz4_3, hfzz4_4, hfzz4_5, hfzz4_6, hfzz4_7, hfzz4_8, hfzz4_9⟩ := cs10_ BKz3.out; obtain ⟨Aoz5, coz5, eoz5⟩ := Kd.R_slice HOz5.out; subst eoz5; obtain ⟨Aoz6, coz6, eoz6⟩ := Kd.R_slice HOz6.out; subst eoz6; obtain ⟨Aoz7, coz7, eoz7⟩ := Kd.R_slice HOz7.out; subst eoz7; obtain ⟨Aoz8, coz8, eoz8⟩ := Kd.R_slice HOz8.out; subst eoz8; obtain ⟨hczz5_0, hczz5_1, hczz5_2, hczz5_3, hczz5_4, hczz5_5, hczz5_6, hczz5_7, hczz5_8, hczz5_9, hfzz5_0, hfzz5_1, hfzz5_2, hfzz5_3, hfzz5_4, hfzz5_5, hfzz5_6, hfzz5_7, hfzz5_8, hfzz5_9⟩ := cs10_ BKz1.out) | ((with_reducible refine gate_callee (f := 22) rfl ?_); refine goesL_ (some 50) rfl rfl Try.func22 (by kernel_rfl) rfl #[.slice A0 l0.length c0, .agg #[.int .i64 a1_0, .int .i64 a1_1, .int .i64 a1_2, .slice A1_3 l1_3.length c1_3, .slice A1_4 l1_4.length c1_4, .slice A1_5 l1_5.length c1_5, .slice A1_6 l1_6.length c1_6, .int .i64 a1_7, .int .i64 a1_8, .bool a1_9], .int .i64 a2, .int .i64 1000000] rfl tA_ ?_; (with_reducible refine (plant_Haul.calls k _ _ l0 a1_0 a1_1 a1_2 _ _ l1_3 _ _ l1_4 _ _ l1_5 _ _ l1_6 a1_7 a1_8 a1_9 a2 1000000 t690 t691 t692 t693 t696 t699 t702 t705 t706 t707 t708 t709 _ ?side1 ?side2 ?side3 ?side4 ?side5 ?side6 ?side7 ?side8 ?side9 ?side10 A15.out).mono ?_); (case side1 => exact Kd.C_below HR0.out (dL3_ HB GEz1 GEz2 GEz3)); (case side2 => exact HC0.out); (case side3 => exact Kd.C_below HR1_3.out (dL3_ HB GEz1 GEz2 GEz3)); (case side4 => exact HC1_3.out); (case side5 => exact Kd.C_below HR1_4.out (dL3_ HB GEz1 GEz2 GEz3)); (case side6 => exact HC1_4.out); (case side7 => exact Kd.C_below HR1_5.out (dL3_ HB GEz1 GEz2 GEz3)); (case side8 => exact HC1_5.out); (case side9 => exact Kd.C_below HR1_6.out (dL3_ HB GEz1 GEz2 GEz3)); (case side10 => exact HC1_6.out); rintro e wz7 ⟨vz9, vz10, vz11, vz12, rfl, hoz1, hoz2, hoz3, hoz4, hb⟩; refine ⟨_, rfl, ?_⟩; have nz1_ := Aside0.mk (Kd.R_mono (Kd.R_told (Kd.R_told (Kd.R_told (Kd.R_told (Kd.R_old (by (with_reducible repeat (first | apply Kd.R_alloc | apply Kd.R_drewN | apply Kd.R_drew)); exact (Kd.R_mono (far10_ (Kd.R_types HOz1.out BKz3.out (by decide)) gbz3 (fun _ hk => hk.2) (.int .i64 t669) (.int .i64 t670) (.int .i64 t671) (.slice Aoz5 t672.length coz5) (.slice Aoz6 t675.length coz6) (.slice Aoz7 t678.length coz7) (.slice Aoz8 t681.length coz8) (.int .i64 t684) (.int .i64 t685) (.bool t686)) (fun _ h_ => h_.1))) hb) (Kd.R_base hoz1)) (Kd.R_base hoz2)) (Kd.R_base hoz3)) (Kd.R_base hoz4)) (fun _ h_ => h_.1)); have nz2_ := Aside0.mk (Kd.R_mono (Kd.R_told (Kd.R_told (Kd.R_told (Kd.R_told (Kd.R_old (by (with_reducible repeat (first | apply Kd.R_alloc | apply Kd.R_drewN | apply Kd.R_drew)); exact (Kd.R_mono (far10_ (Kd.R_types HOz2.out BKz3.out (by decide)) gbz3 (fun _ hk => hk.2) (.int .i64 t669) (.int .i64 t670) (.int .i64 t671) (.slice Aoz5 t672.length coz5) (.slice Aoz6 t675.length coz6) (.slice Aoz7 t678.length coz7) (.slice Aoz8 t681.length coz8) (.int .i64 t684) (.int .i64 t685) (.bool t686)) (fun _ h_ => h_.1))) hb) (Kd.R_base hoz1)) (Kd.R_base hoz2)) (Kd.R_base hoz3)) (Kd.R_base hoz4)) (fun _ h_ => h_.1)); have nz3_ := Aside0.mk (Kd.R_mono (Kd.R_told (Kd.R_told (Kd.R_told (Kd.R_told (Kd.R_old (by (with_reducible repeat (first | apply Kd.R_alloc | apply Kd.R_drewN | apply Kd.R_drew)); exact (Kd.R_mono (far10_ (Kd.R_types HOz3.out BKz3.out (by decide)) gbz3 (fun _ hk => hk.2) (.int .i64 t669) (.int .i64 t670) (.int .i64 t671) (.slice Aoz5 t672.length coz5) (.slice Aoz6 t675.length coz6) (.slice Aoz7 t678.length coz7) (.slice Aoz8 t681.length coz8) (.int .i64 t684) (.int .i64 t685) (.bool t686)) (fun _ h_ => h_.1))) hb) (Kd.R_base hoz1)) (Kd.R_base hoz2)) (Kd.R_base hoz3)) (Kd.R_base hoz4)) (fun _ h_ => h_.1)); have nz4_ := Aside0.mk (Kd.R_mono (Kd.R_told (Kd.R_told (Kd.R_told (Kd.R_told (Kd.R_old (by (with_reducible repeat (first | apply Kd.R_alloc | apply Kd.R_drewN | apply Kd.R_drew)); exact (Kd.R_mono (far10_ (Kd.R_types HOz4.out BKz3.out (by decide)) gbz3 (fun _ hk => hk.2) (.int .i64 t669) (.int .i64 t670) (.int .i64 t671) (.slice Aoz5 t672.length coz5) (.slice Aoz6 t675.length coz6) (.slice Aoz7 t678.length coz7) (.slice Aoz8 t681.length coz8) (.int .i64 t684) (.int .i64 t685) (.bool t686)) (fun _ h_ => h_.1))) hb) (Kd.R_base hoz1)) (Kd.R_base hoz2)) (Kd.R_base hoz3)) (Kd.R_base hoz4)) (fun _ h_ => h_.1)); have nz5_ := Aside0.mk (Kd.R_mono (Kd.R_told (Kd.R_told (Kd.R_told (Kd.R_told (Kd.R_old (by (with_reducible repeat (first | apply Kd.R_alloc | apply Kd.R_drewN | apply Kd.R_drew)); exact (Kd.R_mono (far10_ (Kd.R_types HOz5.out BKz3.out (by decide)) gbz3 (fun _ hk => hk.2) (.int .i64 t669) (.int .i64 t670) (.int .i64 t671) (.slice Aoz5 t672.length coz5) (.slice Aoz6 t675.length coz6) (.slice Aoz7 t678.length coz7) (.slice Aoz8 t681.length coz8) (.int .i64 t684) (.int .i64 t685) (.bool t686)) (fun _ h_ => h_.1))) hb) (Kd.R_base hoz1)) (Kd.R_base hoz2)) (Kd.R_base hoz3)) (Kd.R_base hoz4)) (fun _ h_ => h_.1)); have nz6_ := Aside0.mk (Kd.R_mono (Kd.R_told (Kd.R_told (Kd.R_told (Kd.R_told (Kd.R_old (by (with_reducible repeat (first | apply Kd.R_alloc | apply Kd.R_drewN | apply Kd.R_drew)); exact (Kd.R_mono (far10_ (Kd.R_types HOz6.out BKz3.out (by decide)) gbz3 (fun _ hk => hk.2) (.int .i64 t669) (.int .i64 t670) (.int .i64 t671) (.slice Aoz5 t672.length coz5) (.slice Aoz6 t675.length coz6) (.slice Aoz7 t678.length coz7) (.slice Aoz8 t681.length coz8) (.int .i64 t684) (.int .i64 t685) (.bool t686)) (fun _ h_ => h_.1))) hb) (Kd.R_base hoz1)) (Kd.R_base hoz2)) (Kd.R_base hoz3)) (Kd.R_base hoz4)) (fun _ h_ => h_.1)); have nz7_ := Aside0.mk (Kd.R_mono (Kd.R_told (Kd.R_told (Kd.R_told (Kd.R_told (Kd.R_old (by (with_reducible repeat (first | apply Kd.R_alloc | apply Kd.R_drewN | apply Kd.R_drew)); exact (Kd.R_mono (far10_ (Kd.R_types HOz7.out BKz3.out (by decide)) gbz3 (fun _ hk => hk.2) (.int .i64 t669) (.int .i64 t670) (.int .i64 t671) (.slice Aoz5 t672.length coz5) (.slice Aoz6 t675.length coz6) (.slice Aoz7 t678.length coz7) (.slice Aoz8 t681.length coz8) (.int .i64 t684) (.int .i64 t685) (.bool t686)) (fun _ h_ => h_.1))) hb) (Kd.R_base hoz1)) (Kd.R_base hoz2)) (Kd.R_base hoz3)) (Kd.R_base hoz4)) (fun _ h_ => h_.1)); have nz8_ := Aside0.mk (Kd.R_mono (Kd.R_told (Kd.R_told (Kd.R_told (Kd.R_told (Kd.R_old (by (with_reducible repeat (first | apply Kd.R_alloc | apply Kd.R_drewN | apply Kd.R_drew)); exact (Kd.R_mono (far10_ (Kd.R_types HOz8.out BKz3.out (by decide)) gbz3 (fun _ hk => hk.2) (.int .i64 t669) (.int .i64 t670) (.int .i64 t671) (.slice Aoz5 t672.length coz5) (.slice Aoz6 t675.length coz6) (.slice Aoz7 t678.length coz7) (.slice Aoz8 t681.length coz8) (.int .i64 t684) (.int .i64 t685) (.bool t686)) (fun _ h_ => h_.1))) hb) (Kd.R_base hoz1)) (Kd.R_base hoz2)) (Kd.R_base hoz3)) (Kd.R_base hoz4)) (fun _ h_ => h_.1)); have nz9_ := Aside0.mk (Kd.R_lower (Kd.R_new' (Kd.R_new' (Kd.R_new' (Kd.R_new' (Kd.R_new' (Kd.R_new' (Kd.R_new' (Kd.R_new' hoz1 (Kd.R_lt (by (with_reducible repeat (first | apply Kd.R_alloc | apply Kd.R_drewN | apply Kd.R_drew)); exact (Kd.R_mono (far10_ (Kd.R_types HOz1.out BKz3.out (by decide)) gbz3 (fun _ hk => hk.2) (.int .i64 t669) (.int .i64 t670) (.int .i64 t671) (.slice Aoz5 t672.length coz5) (.slice Aoz6 t675.length coz6) (.slice Aoz7 t678.length coz7) (.slice Aoz8 t681.length coz8) (.int .i64 t684) (.int .i64 t685) (.bool t686)) (fun _ h_ => h_.1))))) (Kd.R_lt (by (with_reducible repeat (first | apply Kd.R_alloc | apply Kd.R_drewN | apply Kd.R_drew)); exact (Kd.R_mono (far10_ (Kd.R_types HOz2.out BKz3.out (by decide)) gbz3 (fun _ hk => hk.2) (.int .i64 t669) (.int .i64 t670) (.int .i64 t671) (.slice Aoz5 t672.length coz5) (.slice Aoz6 t675.length coz6) (.slice Aoz7 t678.length coz7) (.slice Aoz8 t681.length coz8) (.int .i64 t684) (.int .i64 t685) (.bool t686)) (fun _ h_ => h_.1))))) (Kd.R_lt (by (with_reducible repeat (first | apply Kd.R_alloc | apply Kd.R_drewN | apply Kd.R_drew)); exact (Kd.R_mono (far10_ (Kd.R_types HOz3.out BKz3.out (by decide)) gbz3 (fun _ hk => hk.2) (.int .i64 t669) (.int .i64 t670) (.int .i64 t671) (.slice Aoz5 t672.length coz5) (.slice Aoz6 t675.length coz6) (.slice Aoz7 t678.length coz7) (.slice Aoz8 t681.length coz8) (.int .i64 t684) (.int .i64 t685) (.bool t686)) (fun _ h_ => h_.1))))) (Kd.R_lt (by (with_reducible repeat (first | apply Kd.R_alloc | apply Kd.R_drewN | apply Kd.R_drew)); exact (Kd.R_mono (far10_ (Kd.R_types HOz4.out BKz3.out (by decide)) gbz3 (fun _ hk => hk.2) (.int .i64 t669) (.int .i64 t670) (.int .i64 t671) (.slice Aoz5 t672.length coz5) (.slice Aoz6 t675.length coz6) (.slice Aoz7 t678.length coz7) (.slice Aoz8 t681.length coz8) (.int .i64 t684) (.int .i64 t685) (.bool t686)) (fun _ h_ => h_.1))))) (Kd.R_lt (by (with_reducible repeat (first | apply Kd.R_alloc | apply Kd.R_drewN | apply Kd.R_drew)); exact (Kd.R_mono (far10_ (Kd.R_types HOz5.out BKz3.out (by decide)) gbz3 (fun _ hk => hk.2) (.int .i64 t669) (.int .i64 t670) (.int .i64 t671) (.slice Aoz5 t672.length coz5) (.slice Aoz6 t675.length coz6) (.slice Aoz7 t678.length coz7) (.slice Aoz8 t681.length coz8) (.int .i64 t684) (.int .i64 t685) (.bool t686)) (fun _ h_ => h_.1))))) (Kd.R_lt (by (with_reducible repeat (first | apply Kd.R_alloc | apply Kd.R_drewN | apply Kd.R_drew)); exact (Kd.R_mono (far10_ (Kd.R_types HOz6.out BKz3.out (by decide)) gbz3 (fun _ hk => hk.2) (.int .i64 t669) (.int .i64 t670) (.int .i64 t671) (.slice Aoz5 t672.length coz5) (.slice Aoz6 t675.length coz6) (.slice Aoz7 t678.length coz7) (.slice Aoz8 t681.length coz8) (.int .i64 t684) (.int .i64 t685) (.bool t686)) (fun _ h_ => h_.1))))) (Kd.R_lt (by (with_reducible repeat (first | apply Kd.R_alloc | apply Kd.R_drewN | apply Kd.R_drew)); exact (Kd.R_mono (far10_ (Kd.R_types HOz7.out BKz3.out (by decide)) gbz3 (fun _ hk => hk.2) (.int .i64 t669) (.int .i64 t670) (.int .i64 t671) (.slice Aoz5 t672.length coz5) (.slice Aoz6 t675.length coz6) (.slice Aoz7 t678.length coz7) (.slice Aoz8 t681.length coz8) (.int .i64 t684) (.int .i64 t685) (.bool t686)) (fun _ h_ => h_.1))))) (Kd.R_lt (by (with_reducible repeat (first | apply Kd.R_alloc | apply Kd.R_drewN | apply Kd.R_drew)); exact (Kd.R_mono (far10_ (Kd.R_types HOz8.out BKz3.out (by decide)) gbz3 (fun _ hk => hk.2) (.int .i64 t669) (.int .i64 t670) (.int .i64 t671) (.slice Aoz5 t672.length coz5) (.slice Aoz6 t675.length coz6) (.slice Aoz7 t678.length coz7) (.slice Aoz8 t681.length coz8) (.int .i64 t684) (.int .i64 t685) (.bool t686)) (fun _ h_ => h_.1))))) (below_size (dL3_ HB GEz1 GEz2 GEz3))); have nz10_ := Aside0.mk (Kd.R_lower (Kd.R_new' (Kd.R_new' (Kd.R_new' (Kd.R_new' (Kd.R_new' (Kd.R_new' (Kd.R_new' (Kd.R_new' hoz2 (Kd.R_lt (by (with_reducible repeat (first | apply Kd.R_alloc | apply Kd.R_drewN | apply Kd.R_drew)); exact (Kd.R_mono (far10_ (Kd.R_types HOz1.out BKz3.out (by decide)) gbz3 (fun _ hk => hk.2) (.int .i64 t669) (.int .i64 t670) (.int .i64 t671) (.slice Aoz5 t672.length coz5) (.slice Aoz6 t675.length coz6) (.slice Aoz7 t678.length coz7) (.slice Aoz8 t681.length coz8) (.int .i64 t684) (.int .i64 t685) (.bool t686)) (fun _ h_ => h_.1))))) (Kd.R_lt (by (with_reducible repeat (first | apply Kd.R_alloc | apply Kd.R_drewN | apply Kd.R_drew)); exact (Kd.R_mono (far10_ (Kd.R_types HOz2.out BKz3.out (by decide)) gbz3 (fun _ hk => hk.2) (.int .i64 t669) (.int .i64 t670) (.int .i64 t671) (.slice Aoz5 t672.length coz5) (.slice Aoz6 t675.length coz6) (.slice Aoz7 t678.length coz7) (.slice Aoz8 t681.length coz8) (.int .i64 t684) (.int .i64 t685) (.bool t686)) (fun _ h_ => h_.1))))) (Kd.R_lt (by (with_reducible repeat (first | apply Kd.R_alloc | apply Kd.R_drewN | apply Kd.R_drew)); exact (Kd.R_mono (far10_ (Kd.R_types HOz3.out BKz3.out (by decide)) gbz3 (fun _ hk => hk.2) (.int .i64 t669) (.int .i64 t670) (.int .i64 t671) (.slice Aoz5 t672.length coz5) (.slice Aoz6 t675.length coz6) (.slice Aoz7 t678.length coz7) (.slice Aoz8 t681.length coz8) (.int .i64 t684) (.int .i64 t685) (.bool t686)) (fun _ h_ => h_.1))))) (Kd.R_lt (by (with_reducible repeat (first | apply Kd.R_alloc | apply Kd.R_drewN | apply Kd.R_drew)); exact (Kd.R_mono (far10_ (Kd.R_types HOz4.out BKz3.out (by decide)) gbz3 (fun _ hk => hk.2) (.int .i64 t669) (.int .i64 t670) (.int .i64 t671) (.slice Aoz5 t672.length coz5) (.slice Aoz6 t675.length coz6) (.slice Aoz7 t678.length coz7) (.slice Aoz8 t681.length coz8) (.int .i64 t684) (.int .i64 t685) (.bool t686)) (fun _ h_ => h_.1))))) (Kd.R_lt (by (with_reducible repeat (first | apply Kd.R_alloc | apply Kd.R_drewN | apply Kd.R_drew)); exact (Kd.R_mono (far10_ (Kd.R_types HOz5.out BKz3.out (by decide)) gbz3 (fun _ hk => hk.2) (.int .i64 t669) (.int .i64 t670) (.int .i64 t671) (.slice Aoz5 t672.length coz5) (.slice Aoz6 t675.length coz6) (.slice Aoz7 t678.length coz7) (.slice Aoz8 t681.length coz8) (.int .i64 t684) (.int .i64 t685) (.bool t686)) (fun _ h_ => h_.1))))) (Kd.R_lt (by (with_reducible repeat (first | apply Kd.R_alloc | apply Kd.R_drewN | apply Kd.R_drew)); exact (Kd.R_mono (far10_ (Kd.R_types HOz6.out BKz3.out (by decide)) gbz3 (fun _ hk => hk.2) (.int .i64 t669) (.int .i64 t670) (.int .i64 t671) (.slice Aoz5 t672.length coz5) (.slice Aoz6 t675.length coz6) (.slice Aoz7 t678.length coz7) (.slice Aoz8 t681.length coz8) (.int .i64 t684) (.int .i64 t685) (.bool t686)) (fun _ h_ => h_.1))))) (Kd.R_lt (by (with_reducible repeat (first | apply Kd.R_alloc | apply Kd.R_drewN | apply Kd.R_drew)); exact (Kd.R_mono (far10_ (Kd.R_types HOz7.out BKz3.out (by decide)) gbz3 (fun _ hk => hk.2) (.int .i64 t669) (.int .i64 t670) (.int .i64 t671) (.slice Aoz5 t672.length coz5) (.slice Aoz6 t675.length coz6) (.slice Aoz7 t678.length coz7) (.slice Aoz8 t681.length coz8) (.int .i64 t684) (.int .i64 t685) (.bool t686)) (fun _ h_ => h_.1))))) (Kd.R_lt (by (with_reducible repeat (first | apply Kd.R_alloc | apply Kd.R_drewN | apply Kd.R_drew)); exact (Kd.R_mono (far10_ (Kd.R_types HOz8.out BKz3.out (by decide)) gbz3 (fun _ hk => hk.2) (.int .i64 t669) (.int .i64 t670) (.int .i64 t671) (.slice Aoz5 t672.length coz5) (.slice Aoz6 t675.length coz6) (.slice Aoz7 t678.length coz7) (.slice Aoz8 t681.length coz8) (.int .i64 t684) (.int .i64 t685) (.bool t686)) (fun _ h_ => h_.1))))) (below_size (dL3_ HB GEz1 GEz2 GEz3))); have nz11_ := Aside0.mk (Kd.R_lower (Kd.R_new' (Kd.R_new' (Kd.R_new' (Kd.R_new' (Kd.R_new' (Kd.R_new' (Kd.R_new' (Kd.R_new' hoz3 (Kd.R_lt (by (with_reducible repeat (first | apply Kd.R_alloc | apply Kd.R_drewN | apply Kd.R_drew)); exact (Kd.R_mono (far10_ (Kd.R_types HOz1.out BKz3.out (by decide)) gbz3 (fun _ hk => hk.2) (.int .i64 t669) (.int .i64 t670) (.int .i64 t671) (.slice Aoz5 t672.length coz5) (.slice Aoz6 t675.length coz6) (.slice Aoz7 t678.length coz7) (.slice Aoz8 t681.length coz8) (.int .i64 t684) (.int .i64 t685) (.bool t686)) (fun _ h_ => h_.1))))) (Kd.R_lt (by (with_reducible repeat (first | apply Kd.R_alloc | apply Kd.R_drewN | apply Kd.R_drew)); exact (Kd.R_mono (far10_ (Kd.R_types HOz2.out BKz3.out (by decide)) gbz3 (fun _ hk => hk.2) (.int .i64 t669) (.int .i64 t670) (.int .i64 t671) (.slice Aoz5 t672.length coz5) (.slice Aoz6 t675.length coz6) (.slice Aoz7 t678.length coz7) (.slice Aoz8 t681.length coz8) (.int .i64 t684) (.int .i64 t685) (.bool t686)) (fun _ h_ => h_.1))))) (Kd.R_lt (by (with_reducible repeat (first | apply Kd.R_alloc | apply Kd.R_drewN | apply Kd.R_drew)); exact (Kd.R_mono (far10_ (Kd.R_types HOz3.out BKz3.out (by decide)) gbz3 (fun _ hk => hk.2) (.int .i64 t669) (.int .i64 t670) (.int .i64 t671) (.slice Aoz5 t672.length coz5) (.slice Aoz6 t675.length coz6) (.slice Aoz7 t678.length coz7) (.slice Aoz8 t681.length coz8) (.int .i64 t684) (.int .i64 t685) (.bool t686)) (fun _ h_ => h_.1))))) (Kd.R_lt (by (with_reducible repeat (first | apply Kd.R_alloc | apply Kd.R_drewN | apply Kd.R_drew)); exact (Kd.R_mono (far10_ (Kd.R_types HOz4.out BKz3.out (by decide)) gbz3 (fun _ hk => hk.2) (.int .i64 t669) (.int .i64 t670) (.int .i64 t671) (.slice Aoz5 t672.length coz5) (.slice Aoz6 t675.length coz6) (.slice Aoz7 t678.length coz7) (.slice Aoz8 t681.length coz8) (.int .i64 t684) (.int .i64 t685) (.bool t686)) (fun _ h_ => h_.1))))) (Kd.R_lt (by (with_reducible repeat (first | apply Kd.R_alloc | apply Kd.R_drewN | apply Kd.R_drew)); exact (Kd.R_mono (far10_ (Kd.R_types HOz5.out BKz3.out (by decide)) gbz3 (fun _ hk => hk.2) (.int .i64 t669) (.int .i64 t670) (.int .i64 t671) (.slice Aoz5 t672.length coz5) (.slice Aoz6 t675.length coz6) (.slice Aoz7 t678.length coz7) (.slice Aoz8 t681.length coz8) (.int .i64 t684) (.int .i64 t685) (.bool t686)) (fun _ h_ => h_.1))))) (Kd.R_lt (by (with_reducible repeat (first | apply Kd.R_alloc | apply Kd.R_drewN | apply Kd.R_drew)); exact (Kd.R_mono (far10_ (Kd.R_types HOz6.out BKz3.out (by decide)) gbz3 (fun _ hk => hk.2) (.int .i64 t669) (.int .i64 t670) (.int .i64 t671) (.slice Aoz5 t672.length coz5) (.slice Aoz6 t675.length coz6) (.slice Aoz7 t678.length coz7) (.slice Aoz8 t681.length coz8) (.int .i64 t684) (.int .i64 t685) (.bool t686)) (fun _ h_ => h_.1))))) (Kd.R_lt (by (with_reducible repeat (first | apply Kd.R_alloc | apply Kd.R_drewN | apply Kd.R_drew)); exact (Kd.R_mono (far10_ (Kd.R_types HOz7.out BKz3.out (by decide)) gbz3 (fun _ hk => hk.2) (.int .i64 t669) (.int .i64 t670) (.int .i64 t671) (.slice Aoz5 t672.length coz5) (.slice Aoz6 t675.length coz6) (.slice Aoz7 t678.length coz7) (.slice Aoz8 t681.length coz8) (.int .i64 t684) (.int .i64 t685) (.bool t686)) (fun _ h_ => h_.1))))) (Kd.R_lt (by (with_reducible repeat (first | apply Kd.R_alloc | apply Kd.R_drewN | apply Kd.R_drew)); exact (Kd.R_mono (far10_ (Kd.R_types HOz8.out BKz3.out (by decide)) gbz3 (fun _ hk => hk.2) (.int .i64 t669) (.int .i64 t670) (.int .i64 t671) (.slice Aoz5 t672.length coz5) (.slice Aoz6 t675.length coz6) (.slice Aoz7 t678.length coz7) (.slice Aoz8 t681.length coz8) (.int .i64 t684) (.int .i64 t685) (.bool t686)) (fun _ h_ => h_.1))))) (below_size (dL3_ HB GEz1 GEz2 GEz3))); have nz12_ := Aside0.mk (Kd.R_lower (Kd.R_new' (Kd.R_new' (Kd.R_new' (Kd.R_new' (Kd.R_new' (Kd.R_new' (Kd.R_new' (Kd.R_new' hoz4 (Kd.R_lt (by (with_reducible repeat (first | apply Kd.R_alloc | apply Kd.R_drewN | apply Kd.R_drew)); exact (Kd.R_mono (far10_ (Kd.R_types HOz1.out BKz3.out (by decide)) gbz3 (fun _ hk => hk.2) (.int .i64 t669) (.int .i64 t670) (.int .i64 t671) (.slice Aoz5 t672.length coz5) (.slice Aoz6 t675.length coz6) (.slice Aoz7 t678.length coz7) (.slice Aoz8 t681.length coz8) (.int .i64 t684) (.int .i64 t685) (.bool t686)) (fun _ h_ => h_.1))))) (Kd.R_lt (by (with_reducible repeat (first | apply Kd.R_alloc | apply Kd.R_drewN | apply Kd.R_drew)); exact (Kd.R_mono (far10_ (Kd.R_types HOz2.out BKz3.out (by decide)) gbz3 (fun _ hk => hk.2) (.int .i64 t669) (.int .i64 t670) (.int .i64 t671) (.slice Aoz5 t672.length coz5) (.slice Aoz6 t675.length coz6) (.slice Aoz7 t678.length coz7) (.slice Aoz8 t681.length coz8) (.int .i64 t684) (.int .i64 t685) (.bool t686)) (fun _ h_ => h_.1))))) (Kd.R_lt (by (with_reducible repeat (first | apply Kd.R_alloc | apply Kd.R_drewN | apply Kd.R_drew)); exact (Kd.R_mono (far10_ (Kd.R_types HOz3.out BKz3.out (by decide)) gbz3 (fun _ hk => hk.2) (.int .i64 t669) (.int .i64 t670) (.int .i64 t671) (.slice Aoz5 t672.length coz5) (.slice Aoz6 t675.length coz6) (.slice Aoz7 t678.length coz7) (.slice Aoz8 t681.length coz8) (.int .i64 t684) (.int .i64 t685) (.bool t686)) (fun _ h_ => h_.1))))) (Kd.R_lt (by (with_reducible repeat (first | apply Kd.R_alloc | apply Kd.R_drewN | apply Kd.R_drew)); exact (Kd.R_mono (far10_ (Kd.R_types HOz4.out BKz3.out (by decide)) gbz3 (fun _ hk => hk.2) (.int .i64 t669) (.int .i64 t670) (.int .i64 t671) (.slice Aoz5 t672.length coz5) (.slice Aoz6 t675.length coz6) (.slice Aoz7 t678.length coz7) (.slice Aoz8 t681.length coz8) (.int .i64 t684) (.int .i64 t685) (.bool t686)) (fun _ h_ => h_.1))))) (Kd.R_lt (by (with_reducible repeat (first | apply Kd.R_alloc | apply Kd.R_drewN | apply Kd.R_drew)); exact (Kd.R_mono (far10_ (Kd.R_types HOz5.out BKz3.out (by decide)) gbz3 (fun _ hk => hk.2) (.int .i64 t669) (.int .i64 t670) (.int .i64 t671) (.slice Aoz5 t672.length coz5) (.slice Aoz6 t675.length coz6) (.slice Aoz7 t678.length coz7) (.slice Aoz8 t681.length coz8) (.int .i64 t684) (.int .i64 t685) (.bool t686)) (fun _ h_ => h_.1))))) (Kd.R_lt (by (with_reducible repeat (first | apply Kd.R_alloc | apply Kd.R_drewN | apply Kd.R_drew)); exact (Kd.R_mono (far10_ (Kd.R_types HOz6.out BKz3.out (by decide)) gbz3 (fun _ hk => hk.2) (.int .i64 t669) (.int .i64 t670) (.int .i64 t671) (.slice Aoz5 t672.length coz5) (.slice Aoz6 t675.length coz6) (.slice Aoz7 t678.length coz7) (.slice Aoz8 t681.length coz8) (.int .i64 t684) (.int .i64 t685) (.bool t686)) (fun _ h_ => h_.1))))) (Kd.R_lt (by (with_reducible repeat (first | apply Kd.R_alloc | apply Kd.R_drewN | apply Kd.R_drew)); exact (Kd.R_mono (far10_ (Kd.R_types HOz7.out BKz3.out (by decide)) gbz3 (fun _ hk => hk.2) (.int .i64 t669) (.int .i64 t670) (.int .i64 t671) (.slice Aoz5 t672.length coz5) (.slice Aoz6 t675.length coz6) (.slice Aoz7 t678.length coz7) (.slice Aoz8 t681.length coz8) (.int .i64 t684) (.int .i64 t685) (.bool t686)) (fun _ h_ => h_.1))))) (Kd.R_lt (by (with_reducible repeat (first | apply Kd.R_alloc | apply Kd.R_drewN | apply Kd.R_drew)); exact (Kd.R_mono (far10_ (Kd.R_types HOz8.out BKz3.out (by decide)) gbz3 (fun _ hk => hk.2) (.int .i64 t669) (.int .i64 t670) (.int .i64 t671) (.slice Aoz5 t672.length coz5) (.slice Aoz6 t675.length coz6) (.slice Aoz7 t678.length coz7) (.slice Aoz8 t681.length coz8) (.int .i64 t684) (.int .i64 t685) (.bool t686)) (fun _ h_ => h_.1))))) (below_size (dL3_ HB GEz1 GEz2 GEz3))); have nz13_ := Aside0.mk (blk_below (g := gbz1) (o := .cells #[.int .i64 a1_0, .int .i64 a1_1, .int .i64 a1_2, .slice A1_3 l1_3.length c1_3, .slice A1_4 l1_4.length c1_4, .slice A1_5 l1_5.length c1_5, .slice A1_6 l1_6.length c1_6, .int .i64 a1_7, .int .i64 a1_8, .bool a1_9] 25 (0, 0)) (dF10_ BKz1 NBz1_689) hb); have nz14_ := Aside0.mk (blk_below (g := gbz2) (o := .cells #[.int .i64 t647, .int .i64 t648, .int .i64 t649, .slice Aoz1 t650.length coz1, .slice Aoz2 t653.length coz2, .slice Aoz3 t656.length coz3, .slice Aoz4 t659.length coz4, .int .i64 t662, .int .i64 t663, .bool t664] 25 (0, 0)) (dF10_ BKz2 NBz2_689) hb); have nz15_ := Aside0.mk (blk_below (g := gbz3) (o := .cells #[.int .i64 t669, .int .i64 t670, .int .i64 t671, .slice Aoz5 t672.length coz5, .slice Aoz6 t675.length coz6, .slice Aoz7 t678.length coz7, .slice Aoz8 t681.length coz8, .int .i64 t684, .int .i64 t685, .bool t686] 25 (0, 0)) (dP10_ BKz3) hb); have nz16_ := Aside0.mk (below_step (dL3_ HB GEz1 GEz2 GEz3) hb); clear HOz1; clear HOz2; clear HOz3; clear HOz4; clear HOz5; clear HOz6; clear HOz7; clear HOz8; clear BKz1; clear BKz2; clear BKz3; clear HB; have HOz1 := nz1_; have HOz2 := nz2_; have HOz3 := nz3_; have HOz4 := nz4_; have HOz5 := nz5_; have HOz6 := nz6_; have HOz7 := nz7_; have HOz8 := nz8_; have HOz9 := nz9_; have HOz10 := nz10_; have HOz11 := nz11_; have HOz12 := nz12_; have BKz1 := nz13_; have BKz2 := nz14_; have BKz3 := nz15_; have HB := nz16_; clear nz1_ nz2_ nz3_ nz4_ nz5_ nz6_ nz7_ nz8_ nz9_ nz10_ nz11_ nz12_ nz13_ nz14_ nz15_ nz16_) | ((with_reducible refine gate_dst (N := 15) rfl ?_); refine box_event ?hg (N := 15) ?hd (cs := #[.int .i64 0, .int .i64 0, .int .i64 0, .slice none 0 0, .slice none 0 0, .slice none 0 0, .slice none 0 0, .int .i64 0, .int .i64 0, .bool false]) (t := 25) ?hr ?_; (case hd => rfl); (case hg => rfl); (case hr => first | (go_simp; done) | (go_simp; rfl)); intro gbz4 hg wz8 hbox hb; have nz1_ := Aside0.mk (Kd.R_below (dR_ HOz1) hb); have nz2_ := Aside0.mk (Kd.R_below (dR_ HOz2) hb); have nz3_ := Aside0.mk (Kd.R_below (dR_ HOz3) hb); have nz4_ := Aside0.mk (Kd.R_below (dR_ HOz4) hb); have nz5_ := Aside0.mk (Kd.R_below (dR_ HOz5) hb); have nz6_ := Aside0.mk (Kd.R_below (dR_ HOz6) hb); have nz7_ := Aside0.mk (Kd.R_below (dR_ HOz7) hb); have nz8_ := Aside0.mk (Kd.R_below (dR_ HOz8) hb); have nz9_ := Aside0.mk (Kd.R_below (dR_ HOz9) hb); have nz10_ := Aside0.mk (Kd.R_below (dR_ HOz10) hb); have nz11_ := Aside0.mk (Kd.R_below (dR_ HOz11) hb); have nz12_ := Aside0.mk (Kd.R_below (dR_ HOz12) hb); have nz13_ := Aside0.mk (blk_below (g := gbz1) (o := .cells #[.int .i64 a1_0, .int .i64 a1_1, .int .i64 a1_2, .slice A1_3 l1_3.length c1_3, .slice A1_4 l1_4.length c1_4, .slice A1_5 l1_5.length c1_5, .slice A1_6 l1_6.length c1_6, .int .i64 a1_7, .int .i64 a1_8, .bool a1_9] 25 (0, 0)) (dB_ BKz1) hb); have nz14_ := Aside0.mk (blk_below (g := gbz2) (o := .cells #[.int .i64 t647, .int .i64 t648, .int .i64 t649, .slice Aoz1 t650.length coz1, .slice Aoz2 t653.length coz2, .slice Aoz3 t656.length coz3, .slice Aoz4 t659.length coz4, .int .i64 t662, .int .i64 t663, .bool t664] 25 (0, 0)) (dB_ BKz2) hb); have nz15_ := Aside0.mk (blk_below (g := gbz3) (o := .cells #[.int .i64 t669, .int .i64 t670, .int .i64 t671, .slice Aoz5 t672.length coz5, .slice Aoz6 t675.length coz6, .slice Aoz7 t678.length coz7, .slice Aoz8 t681.length coz8, .int .i64 t684, .int .i64 t685, .bool t686] 25 (0, 0)) (dB_ BKz3) hb); have nz16_ := Aside0.mk (below_step (dL3_ HB GEz1 GEz2 GEz3) hb); have nz17_ := Aside0.mk (hbox); have nz18_ := Aside0.mk ((dS_ hg (dL3_ HB GEz1 GEz2 GEz3) : w.heap.size ≤ gbz4)); have nz19_ := Aside0.mk ((dS_ hg (dL3_ HB GEz1 GEz2 GEz3) : w.heap.size ≤ gbz4)); have nz20_ := Aside0.mk ((by rw [hg]; exact Nat.ne_of_lt (blk_lt (dB_ BKz1)) : gbz1 ≠ gbz4)); have nz21_ := Aside0.mk ((by rw [hg]; exact Nat.ne_of_gt (blk_lt (dB_ BKz1)) : gbz4 ≠ gbz1)); have nz22_ := Aside0.mk ((by rw [hg]; exact Nat.ne_of_lt (blk_lt (dB_ BKz2)) : gbz2 ≠ gbz4)); have nz23_ := Aside0.mk ((by rw [hg]; exact Nat.ne_of_gt (blk_lt (dB_ BKz2)) : gbz4 ≠ gbz2)); have nz24_ := Aside0.mk ((by rw [hg]; exact Nat.ne_of_lt (blk_lt (dB_ BKz3)) : gbz3 ≠ gbz4)); have nz25_ := Aside0.mk ((by rw [hg]; exact Nat.ne_of_gt (blk_lt (dB_ BKz3)) : gbz4 ≠ gbz3)); clear HOz1; clear HOz2; clear HOz3; clear HOz4; clear HOz5; clear HOz6; clear HOz7; clear HOz8; clear HOz9; clear HOz10; clear HOz11; clear HOz12; clear BKz1; clear BKz2; clear BKz3; clear HB; have HOz1 := nz1_; have HOz2 := nz2_; have HOz3 := nz3_; have HOz4 := nz4_; have HOz5 := nz5_; have HOz6 := nz6_; have HOz7 := nz7_; have HOz8 := nz8_; have HOz9 := nz9_; have HOz10 := nz10_; have HOz11 := nz11_; have HOz12 := nz12_; have BKz1 := nz13_; have BKz2 := nz14_; have BKz3 := nz15_; have HB := nz16_; have BKz4 := nz17_; have GWz4 := nz18_; have GEz4 := nz19_; have NBz1_710 := nz20_; have NBz4_644 := nz21_; have NBz2_710 := nz22_; have NBz4_667 := nz23_; have NBz3_710 := nz24_; have NBz4_689 := nz25_; clear nz1_ nz2_ nz3_ nz4_ nz5_ nz6_ nz7_ nz8_ nz9_ nz10_ nz11_ nz12_ nz13_ nz14_ nz15_ nz16_ nz17_ nz18_ nz19_ nz20_ nz21_ nz22_ nz23_ nz24_ nz25_; clear hb hbox hg; have hnbz4 := NBz4_644.out; have hncz4 := NBz1_710.out; have hnbz5 := NBz4_667.out; have hncz5 := NBz2_710.out; have hnbz6 := NBz4_689.out; have hncz6 := NBz3_710.out; obtain ⟨hczz6_0, hczz6_1, hczz6_2, hczz6_3, hczz6_4, hczz6_5, hczz6_6, hczz6_7, hczz6_8, hczz6_9, hfzz6_0, hfzz6_1, hfzz6_2, hfzz6_3, hfzz6_4, hfzz6_5, hfzz6_6, hfzz6_7, hfzz6_8, hfzz6_9⟩ := cs10_ BKz4.out; obtain ⟨Aoz9, coz9, eoz9⟩ := Kd.R_slice HOz9.out; subst eoz9; obtain ⟨Aoz10, coz10, eoz10⟩ := Kd.R_slice HOz10.out; subst eoz10; obtain ⟨Aoz11, coz11, eoz11⟩ := Kd.R_slice HOz11.out; subst eoz11; obtain ⟨Aoz12, coz12, eoz12⟩ := Kd.R_slice HOz12.out; subst eoz12))
      have nz1_ : Aside0 (Kd.R (Kd.int .i64) 3 ((((((((((wz8.setCell ⟨gbz4, 0, none⟩ (.int .i64 t690)).setCell ⟨gbz4, 1, none⟩ (.int .i64 t691)).setCell ⟨gbz4, 2, none⟩ (.int .i64 t692)).setCell ⟨gbz4, 3, none⟩ (.slice Aoz9 t693.length coz9)).setCell ⟨gbz4, 4, none⟩ (.slice Aoz10 t696.length coz10)).setCell ⟨gbz4, 5, none⟩ (.slice Aoz11 t699.length coz11)).setCell ⟨gbz4, 6, none⟩ (.slice Aoz12 t702.length coz12)).setCell ⟨gbz4, 7, none⟩ (.int .i64 t705)).setCell ⟨gbz4, 8, none⟩ (.int .i64 t706)).setCell ⟨gbz4, 9, none⟩ (.bool t707)) w.heap.size (fun k_ => some k_ ≠ (.slice Aoz2 t653.length coz2 : Value).ownBlock ∧ some k_ ≠ (.slice Aoz3 t656.length coz3 : Value).ownBlock ∧ some k_ ≠ (.slice Aoz4 t659.length coz4 : Value).ownBlock ∧ some k_ ≠ (.slice Aoz5 t672.length coz5 : Value).ownBlock ∧ some k_ ≠ (.slice Aoz6 t675.length coz6 : Value).ownBlock ∧ some k_ ≠ (.slice Aoz7 t678.length coz7 : Value).ownBlock ∧ some k_ ≠ (.slice Aoz8 t681.length coz8 : Value).ownBlock ∧ some k_ ≠ (.slice Aoz9 t693.length coz9 : Value).ownBlock ∧ some k_ ≠ (.slice Aoz10 t696.length coz10 : Value).ownBlock ∧ some k_ ≠ (.slice Aoz11 t699.length coz11 : Value).ownBlock ∧ some k_ ≠ (.slice Aoz12 t702.length coz12 : Value).ownBlock) (.slice Aoz1 t650.length coz1) t650) := ⟨by (with_reducible repeat (first | apply Kd.R_alloc | apply Kd.R_drewN | apply Kd.R_drew)); exact Kd.R_mono (far10_ (Kd.R_types HOz1.out BKz4.out (by decide)) gbz4 (fun _ hk => hk.2) (.int .i64 t690) (.int .i64 t691) (.int .i64 t692) (.slice Aoz9 t693.length coz9) (.slice Aoz10 t696.length coz10) (.slice Aoz11 t699.length coz11) (.slice Aoz12 t702.length coz12) (.int .i64 t705) (.int .i64 t706) (.bool t707)) (fun _ hk => ⟨hk.1.1.1.1.1.1.1.1.1.1, ⟨hk.1.1.1.1.1.1.1.1.1.2.1, ⟨hk.1.1.1.1.1.1.1.1.1.2.2, ⟨hk.1.1.1.1.1.1.1.1.2, ⟨hk.1.1.1.1.1.1.1.2, ⟨hk.1.1.1.1.1.1.2, ⟨hk.1.1.1.1.1.2, ⟨hk.1.1.1.1.2, ⟨hk.1.1.1.2, ⟨hk.1.1.2, hk.1.2⟩⟩⟩⟩⟩⟩⟩⟩⟩⟩)⟩
      have nz2_ : Aside0 (Kd.R (Kd.int .i64) 3 ((((((((((wz8.setCell ⟨gbz4, 0, none⟩ (.int .i64 t690)).setCell ⟨gbz4, 1, none⟩ (.int .i64 t691)).setCell ⟨gbz4, 2, none⟩ (.int .i64 t692)).setCell ⟨gbz4, 3, none⟩ (.slice Aoz9 t693.length coz9)).setCell ⟨gbz4, 4, none⟩ (.slice Aoz10 t696.length coz10)).setCell ⟨gbz4, 5, none⟩ (.slice Aoz11 t699.length coz11)).setCell ⟨gbz4, 6, none⟩ (.slice Aoz12 t702.length coz12)).setCell ⟨gbz4, 7, none⟩ (.int .i64 t705)).setCell ⟨gbz4, 8, none⟩ (.int .i64 t706)).setCell ⟨gbz4, 9, none⟩ (.bool t707)) w.heap.size (fun k_ => some k_ ≠ (.slice Aoz1 t650.length coz1 : Value).ownBlock ∧ some k_ ≠ (.slice Aoz3 t656.length coz3 : Value).ownBlock ∧ some k_ ≠ (.slice Aoz4 t659.length coz4 : Value).ownBlock ∧ some k_ ≠ (.slice Aoz5 t672.length coz5 : Value).ownBlock ∧ some k_ ≠ (.slice Aoz6 t675.length coz6 : Value).ownBlock ∧ some k_ ≠ (.slice Aoz7 t678.length coz7 : Value).ownBlock ∧ some k_ ≠ (.slice Aoz8 t681.length coz8 : Value).ownBlock ∧ some k_ ≠ (.slice Aoz9 t693.length coz9 : Value).ownBlock ∧ some k_ ≠ (.slice Aoz10 t696.length coz10 : Value).ownBlock ∧ some k_ ≠ (.slice Aoz11 t699.length coz11 : Value).ownBlock ∧ some k_ ≠ (.slice Aoz12 t702.length coz12 : Value).ownBlock) (.slice Aoz2 t653.length coz2) t653) := ⟨by (with_reducible repeat (first | apply Kd.R_alloc | apply Kd.R_drewN | apply Kd.R_drew)); exact Kd.R_mono (far10_ (Kd.R_types HOz2.out BKz4.out (by decide)) gbz4 (fun _ hk => hk.2) (.int .i64 t690) (.int .i64 t691) (.int .i64 t692) (.slice Aoz9 t693.length coz9) (.slice Aoz10 t696.length coz10) (.slice Aoz11 t699.length coz11) (.slice Aoz12 t702.length coz12) (.int .i64 t705) (.int .i64 t706) (.bool t707)) (fun _ hk => ⟨hk.1.1.1.1.1.1.1.1.1.1, ⟨hk.1.1.1.1.1.1.1.1.1.2.1, ⟨hk.1.1.1.1.1.1.1.1.1.2.2, ⟨hk.1.1.1.1.1.1.1.1.2, ⟨hk.1.1.1.1.1.1.1.2, ⟨hk.1.1.1.1.1.1.2, ⟨hk.1.1.1.1.1.2, ⟨hk.1.1.1.1.2, ⟨hk.1.1.1.2, ⟨hk.1.1.2, hk.1.2⟩⟩⟩⟩⟩⟩⟩⟩⟩⟩)⟩
      have nz3_ : Aside0 (Kd.R (Kd.int .i64) 3 ((((((((((wz8.setCell ⟨gbz4, 0, none⟩ (.int .i64 t690)).setCell ⟨gbz4, 1, none⟩ (.int .i64 t691)).setCell ⟨gbz4, 2, none⟩ (.int .i64 t692)).setCell ⟨gbz4, 3, none⟩ (.slice Aoz9 t693.length coz9)).setCell ⟨gbz4, 4, none⟩ (.slice Aoz10 t696.length coz10)).setCell ⟨gbz4, 5, none⟩ (.slice Aoz11 t699.length coz11)).setCell ⟨gbz4, 6, none⟩ (.slice Aoz12 t702.length coz12)).setCell ⟨gbz4, 7, none⟩ (.int .i64 t705)).setCell ⟨gbz4, 8, none⟩ (.int .i64 t706)).setCell ⟨gbz4, 9, none⟩ (.bool t707)) w.heap.size (fun k_ => some k_ ≠ (.slice Aoz1 t650.length coz1 : Value).ownBlock ∧ some k_ ≠ (.slice Aoz2 t653.length coz2 : Value).ownBlock ∧ some k_ ≠ (.slice Aoz4 t659.length coz4 : Value).ownBlock ∧ some k_ ≠ (.slice Aoz5 t672.length coz5 : Value).ownBlock ∧ some k_ ≠ (.slice Aoz6 t675.length coz6 : Value).ownBlock ∧ some k_ ≠ (.slice Aoz7 t678.length coz7 : Value).ownBlock ∧ some k_ ≠ (.slice Aoz8 t681.length coz8 : Value).ownBlock ∧ some k_ ≠ (.slice Aoz9 t693.length coz9 : Value).ownBlock ∧ some k_ ≠ (.slice Aoz10 t696.length coz10 : Value).ownBlock ∧ some k_ ≠ (.slice Aoz11 t699.length coz11 : Value).ownBlock ∧ some k_ ≠ (.slice Aoz12 t702.length coz12 : Value).ownBlock) (.slice Aoz3 t656.length coz3) t656) := ⟨by (with_reducible repeat (first | apply Kd.R_alloc | apply Kd.R_drewN | apply Kd.R_drew)); exact Kd.R_mono (far10_ (Kd.R_types HOz3.out BKz4.out (by decide)) gbz4 (fun _ hk => hk.2) (.int .i64 t690) (.int .i64 t691) (.int .i64 t692) (.slice Aoz9 t693.length coz9) (.slice Aoz10 t696.length coz10) (.slice Aoz11 t699.length coz11) (.slice Aoz12 t702.length coz12) (.int .i64 t705) (.int .i64 t706) (.bool t707)) (fun _ hk => ⟨hk.1.1.1.1.1.1.1.1.1.1, ⟨hk.1.1.1.1.1.1.1.1.1.2.1, ⟨hk.1.1.1.1.1.1.1.1.1.2.2, ⟨hk.1.1.1.1.1.1.1.1.2, ⟨hk.1.1.1.1.1.1.1.2, ⟨hk.1.1.1.1.1.1.2, ⟨hk.1.1.1.1.1.2, ⟨hk.1.1.1.1.2, ⟨hk.1.1.1.2, ⟨hk.1.1.2, hk.1.2⟩⟩⟩⟩⟩⟩⟩⟩⟩⟩)⟩
      have nz4_ : Aside0 (Kd.R (Kd.int .i64) 3 ((((((((((wz8.setCell ⟨gbz4, 0, none⟩ (.int .i64 t690)).setCell ⟨gbz4, 1, none⟩ (.int .i64 t691)).setCell ⟨gbz4, 2, none⟩ (.int .i64 t692)).setCell ⟨gbz4, 3, none⟩ (.slice Aoz9 t693.length coz9)).setCell ⟨gbz4, 4, none⟩ (.slice Aoz10 t696.length coz10)).setCell ⟨gbz4, 5, none⟩ (.slice Aoz11 t699.length coz11)).setCell ⟨gbz4, 6, none⟩ (.slice Aoz12 t702.length coz12)).setCell ⟨gbz4, 7, none⟩ (.int .i64 t705)).setCell ⟨gbz4, 8, none⟩ (.int .i64 t706)).setCell ⟨gbz4, 9, none⟩ (.bool t707)) w.heap.size (fun k_ => some k_ ≠ (.slice Aoz1 t650.length coz1 : Value).ownBlock ∧ some k_ ≠ (.slice Aoz2 t653.length coz2 : Value).ownBlock ∧ some k_ ≠ (.slice Aoz3 t656.length coz3 : Value).ownBlock ∧ some k_ ≠ (.slice Aoz5 t672.length coz5 : Value).ownBlock ∧ some k_ ≠ (.slice Aoz6 t675.length coz6 : Value).ownBlock ∧ some k_ ≠ (.slice Aoz7 t678.length coz7 : Value).ownBlock ∧ some k_ ≠ (.slice Aoz8 t681.length coz8 : Value).ownBlock ∧ some k_ ≠ (.slice Aoz9 t693.length coz9 : Value).ownBlock ∧ some k_ ≠ (.slice Aoz10 t696.length coz10 : Value).ownBlock ∧ some k_ ≠ (.slice Aoz11 t699.length coz11 : Value).ownBlock ∧ some k_ ≠ (.slice Aoz12 t702.length coz12 : Value).ownBlock) (.slice Aoz4 t659.length coz4) t659) := ⟨by (with_reducible repeat (first | apply Kd.R_alloc | apply Kd.R_drewN | apply Kd.R_drew)); exact Kd.R_mono (far10_ (Kd.R_types HOz4.out BKz4.out (by decide)) gbz4 (fun _ hk => hk.2) (.int .i64 t690) (.int .i64 t691) (.int .i64 t692) (.slice Aoz9 t693.length coz9) (.slice Aoz10 t696.length coz10) (.slice Aoz11 t699.length coz11) (.slice Aoz12 t702.length coz12) (.int .i64 t705) (.int .i64 t706) (.bool t707)) (fun _ hk => ⟨hk.1.1.1.1.1.1.1.1.1.1, ⟨hk.1.1.1.1.1.1.1.1.1.2.1, ⟨hk.1.1.1.1.1.1.1.1.1.2.2, ⟨hk.1.1.1.1.1.1.1.1.2, ⟨hk.1.1.1.1.1.1.1.2, ⟨hk.1.1.1.1.1.1.2, ⟨hk.1.1.1.1.1.2, ⟨hk.1.1.1.1.2, ⟨hk.1.1.1.2, ⟨hk.1.1.2, hk.1.2⟩⟩⟩⟩⟩⟩⟩⟩⟩⟩)⟩
      have nz5_ : Aside0 (Kd.R (Kd.int .i64) 3 ((((((((((wz8.setCell ⟨gbz4, 0, none⟩ (.int .i64 t690)).setCell ⟨gbz4, 1, none⟩ (.int .i64 t691)).setCell ⟨gbz4, 2, none⟩ (.int .i64 t692)).setCell ⟨gbz4, 3, none⟩ (.slice Aoz9 t693.length coz9)).setCell ⟨gbz4, 4, none⟩ (.slice Aoz10 t696.length coz10)).setCell ⟨gbz4, 5, none⟩ (.slice Aoz11 t699.length coz11)).setCell ⟨gbz4, 6, none⟩ (.slice Aoz12 t702.length coz12)).setCell ⟨gbz4, 7, none⟩ (.int .i64 t705)).setCell ⟨gbz4, 8, none⟩ (.int .i64 t706)).setCell ⟨gbz4, 9, none⟩ (.bool t707)) w.heap.size (fun k_ => some k_ ≠ (.slice Aoz1 t650.length coz1 : Value).ownBlock ∧ some k_ ≠ (.slice Aoz2 t653.length coz2 : Value).ownBlock ∧ some k_ ≠ (.slice Aoz3 t656.length coz3 : Value).ownBlock ∧ some k_ ≠ (.slice Aoz4 t659.length coz4 : Value).ownBlock ∧ some k_ ≠ (.slice Aoz6 t675.length coz6 : Value).ownBlock ∧ some k_ ≠ (.slice Aoz7 t678.length coz7 : Value).ownBlock ∧ some k_ ≠ (.slice Aoz8 t681.length coz8 : Value).ownBlock ∧ some k_ ≠ (.slice Aoz9 t693.length coz9 : Value).ownBlock ∧ some k_ ≠ (.slice Aoz10 t696.length coz10 : Value).ownBlock ∧ some k_ ≠ (.slice Aoz11 t699.length coz11 : Value).ownBlock ∧ some k_ ≠ (.slice Aoz12 t702.length coz12 : Value).ownBlock) (.slice Aoz5 t672.length coz5) t672) := ⟨by (with_reducible repeat (first | apply Kd.R_alloc | apply Kd.R_drewN | apply Kd.R_drew)); exact Kd.R_mono (far10_ (Kd.R_types HOz5.out BKz4.out (by decide)) gbz4 (fun _ hk => hk.2) (.int .i64 t690) (.int .i64 t691) (.int .i64 t692) (.slice Aoz9 t693.length coz9) (.slice Aoz10 t696.length coz10) (.slice Aoz11 t699.length coz11) (.slice Aoz12 t702.length coz12) (.int .i64 t705) (.int .i64 t706) (.bool t707)) (fun _ hk => ⟨hk.1.1.1.1.1.1.1.1.2, ⟨hk.1.1.1.1.1.1.1.2, ⟨hk.1.1.1.1.1.1.2, ⟨hk.1.1.1.1.1.2, ⟨hk.1.1.1.1.1.1.1.1.1.1, ⟨hk.1.1.1.1.1.1.1.1.1.2.1, ⟨hk.1.1.1.1.1.1.1.1.1.2.2, ⟨hk.1.1.1.1.2, ⟨hk.1.1.1.2, ⟨hk.1.1.2, hk.1.2⟩⟩⟩⟩⟩⟩⟩⟩⟩⟩)⟩
      have nz6_ : Aside0 (Kd.R (Kd.int .i64) 3 ((((((((((wz8.setCell ⟨gbz4, 0, none⟩ (.int .i64 t690)).setCell ⟨gbz4, 1, none⟩ (.int .i64 t691)).setCell ⟨gbz4, 2, none⟩ (.int .i64 t692)).setCell ⟨gbz4, 3, none⟩ (.slice Aoz9 t693.length coz9)).setCell ⟨gbz4, 4, none⟩ (.slice Aoz10 t696.length coz10)).setCell ⟨gbz4, 5, none⟩ (.slice Aoz11 t699.length coz11)).setCell ⟨gbz4, 6, none⟩ (.slice Aoz12 t702.length coz12)).setCell ⟨gbz4, 7, none⟩ (.int .i64 t705)).setCell ⟨gbz4, 8, none⟩ (.int .i64 t706)).setCell ⟨gbz4, 9, none⟩ (.bool t707)) w.heap.size (fun k_ => some k_ ≠ (.slice Aoz1 t650.length coz1 : Value).ownBlock ∧ some k_ ≠ (.slice Aoz2 t653.length coz2 : Value).ownBlock ∧ some k_ ≠ (.slice Aoz3 t656.length coz3 : Value).ownBlock ∧ some k_ ≠ (.slice Aoz4 t659.length coz4 : Value).ownBlock ∧ some k_ ≠ (.slice Aoz5 t672.length coz5 : Value).ownBlock ∧ some k_ ≠ (.slice Aoz7 t678.length coz7 : Value).ownBlock ∧ some k_ ≠ (.slice Aoz8 t681.length coz8 : Value).ownBlock ∧ some k_ ≠ (.slice Aoz9 t693.length coz9 : Value).ownBlock ∧ some k_ ≠ (.slice Aoz10 t696.length coz10 : Value).ownBlock ∧ some k_ ≠ (.slice Aoz11 t699.length coz11 : Value).ownBlock ∧ some k_ ≠ (.slice Aoz12 t702.length coz12 : Value).ownBlock) (.slice Aoz6 t675.length coz6) t675) := ⟨by (with_reducible repeat (first | apply Kd.R_alloc | apply Kd.R_drewN | apply Kd.R_drew)); exact Kd.R_mono (far10_ (Kd.R_types HOz6.out BKz4.out (by decide)) gbz4 (fun _ hk => hk.2) (.int .i64 t690) (.int .i64 t691) (.int .i64 t692) (.slice Aoz9 t693.length coz9) (.slice Aoz10 t696.length coz10) (.slice Aoz11 t699.length coz11) (.slice Aoz12 t702.length coz12) (.int .i64 t705) (.int .i64 t706) (.bool t707)) (fun _ hk => ⟨hk.1.1.1.1.1.1.1.1.2, ⟨hk.1.1.1.1.1.1.1.2, ⟨hk.1.1.1.1.1.1.2, ⟨hk.1.1.1.1.1.2, ⟨hk.1.1.1.1.1.1.1.1.1.1, ⟨hk.1.1.1.1.1.1.1.1.1.2.1, ⟨hk.1.1.1.1.1.1.1.1.1.2.2, ⟨hk.1.1.1.1.2, ⟨hk.1.1.1.2, ⟨hk.1.1.2, hk.1.2⟩⟩⟩⟩⟩⟩⟩⟩⟩⟩)⟩
      have nz7_ : Aside0 (Kd.R (Kd.int .i64) 3 ((((((((((wz8.setCell ⟨gbz4, 0, none⟩ (.int .i64 t690)).setCell ⟨gbz4, 1, none⟩ (.int .i64 t691)).setCell ⟨gbz4, 2, none⟩ (.int .i64 t692)).setCell ⟨gbz4, 3, none⟩ (.slice Aoz9 t693.length coz9)).setCell ⟨gbz4, 4, none⟩ (.slice Aoz10 t696.length coz10)).setCell ⟨gbz4, 5, none⟩ (.slice Aoz11 t699.length coz11)).setCell ⟨gbz4, 6, none⟩ (.slice Aoz12 t702.length coz12)).setCell ⟨gbz4, 7, none⟩ (.int .i64 t705)).setCell ⟨gbz4, 8, none⟩ (.int .i64 t706)).setCell ⟨gbz4, 9, none⟩ (.bool t707)) w.heap.size (fun k_ => some k_ ≠ (.slice Aoz1 t650.length coz1 : Value).ownBlock ∧ some k_ ≠ (.slice Aoz2 t653.length coz2 : Value).ownBlock ∧ some k_ ≠ (.slice Aoz3 t656.length coz3 : Value).ownBlock ∧ some k_ ≠ (.slice Aoz4 t659.length coz4 : Value).ownBlock ∧ some k_ ≠ (.slice Aoz5 t672.length coz5 : Value).ownBlock ∧ some k_ ≠ (.slice Aoz6 t675.length coz6 : Value).ownBlock ∧ some k_ ≠ (.slice Aoz8 t681.length coz8 : Value).ownBlock ∧ some k_ ≠ (.slice Aoz9 t693.length coz9 : Value).ownBlock ∧ some k_ ≠ (.slice Aoz10 t696.length coz10 : Value).ownBlock ∧ some k_ ≠ (.slice Aoz11 t699.length coz11 : Value).ownBlock ∧ some k_ ≠ (.slice Aoz12 t702.length coz12 : Value).ownBlock) (.slice Aoz7 t678.length coz7) t678) := ⟨by (with_reducible repeat (first | apply Kd.R_alloc | apply Kd.R_drewN | apply Kd.R_drew)); exact Kd.R_mono (far10_ (Kd.R_types HOz7.out BKz4.out (by decide)) gbz4 (fun _ hk => hk.2) (.int .i64 t690) (.int .i64 t691) (.int .i64 t692) (.slice Aoz9 t693.length coz9) (.slice Aoz10 t696.length coz10) (.slice Aoz11 t699.length coz11) (.slice Aoz12 t702.length coz12) (.int .i64 t705) (.int .i64 t706) (.bool t707)) (fun _ hk => ⟨hk.1.1.1.1.1.1.1.1.2, ⟨hk.1.1.1.1.1.1.1.2, ⟨hk.1.1.1.1.1.1.2, ⟨hk.1.1.1.1.1.2, ⟨hk.1.1.1.1.1.1.1.1.1.1, ⟨hk.1.1.1.1.1.1.1.1.1.2.1, ⟨hk.1.1.1.1.1.1.1.1.1.2.2, ⟨hk.1.1.1.1.2, ⟨hk.1.1.1.2, ⟨hk.1.1.2, hk.1.2⟩⟩⟩⟩⟩⟩⟩⟩⟩⟩)⟩
      have nz8_ : Aside0 (Kd.R (Kd.int .i64) 3 ((((((((((wz8.setCell ⟨gbz4, 0, none⟩ (.int .i64 t690)).setCell ⟨gbz4, 1, none⟩ (.int .i64 t691)).setCell ⟨gbz4, 2, none⟩ (.int .i64 t692)).setCell ⟨gbz4, 3, none⟩ (.slice Aoz9 t693.length coz9)).setCell ⟨gbz4, 4, none⟩ (.slice Aoz10 t696.length coz10)).setCell ⟨gbz4, 5, none⟩ (.slice Aoz11 t699.length coz11)).setCell ⟨gbz4, 6, none⟩ (.slice Aoz12 t702.length coz12)).setCell ⟨gbz4, 7, none⟩ (.int .i64 t705)).setCell ⟨gbz4, 8, none⟩ (.int .i64 t706)).setCell ⟨gbz4, 9, none⟩ (.bool t707)) w.heap.size (fun k_ => some k_ ≠ (.slice Aoz1 t650.length coz1 : Value).ownBlock ∧ some k_ ≠ (.slice Aoz2 t653.length coz2 : Value).ownBlock ∧ some k_ ≠ (.slice Aoz3 t656.length coz3 : Value).ownBlock ∧ some k_ ≠ (.slice Aoz4 t659.length coz4 : Value).ownBlock ∧ some k_ ≠ (.slice Aoz5 t672.length coz5 : Value).ownBlock ∧ some k_ ≠ (.slice Aoz6 t675.length coz6 : Value).ownBlock ∧ some k_ ≠ (.slice Aoz7 t678.length coz7 : Value).ownBlock ∧ some k_ ≠ (.slice Aoz9 t693.length coz9 : Value).ownBlock ∧ some k_ ≠ (.slice Aoz10 t696.length coz10 : Value).ownBlock ∧ some k_ ≠ (.slice Aoz11 t699.length coz11 : Value).ownBlock ∧ some k_ ≠ (.slice Aoz12 t702.length coz12 : Value).ownBlock) (.slice Aoz8 t681.length coz8) t681) := ⟨by (with_reducible repeat (first | apply Kd.R_alloc | apply Kd.R_drewN | apply Kd.R_drew)); exact Kd.R_mono (far10_ (Kd.R_types HOz8.out BKz4.out (by decide)) gbz4 (fun _ hk => hk.2) (.int .i64 t690) (.int .i64 t691) (.int .i64 t692) (.slice Aoz9 t693.length coz9) (.slice Aoz10 t696.length coz10) (.slice Aoz11 t699.length coz11) (.slice Aoz12 t702.length coz12) (.int .i64 t705) (.int .i64 t706) (.bool t707)) (fun _ hk => ⟨hk.1.1.1.1.1.1.1.1.2, ⟨hk.1.1.1.1.1.1.1.2, ⟨hk.1.1.1.1.1.1.2, ⟨hk.1.1.1.1.1.2, ⟨hk.1.1.1.1.1.1.1.1.1.1, ⟨hk.1.1.1.1.1.1.1.1.1.2.1, ⟨hk.1.1.1.1.1.1.1.1.1.2.2, ⟨hk.1.1.1.1.2, ⟨hk.1.1.1.2, ⟨hk.1.1.2, hk.1.2⟩⟩⟩⟩⟩⟩⟩⟩⟩⟩)⟩
      have nz9_ : Aside0 (Kd.R (Kd.int .i64) 3 ((((((((((wz8.setCell ⟨gbz4, 0, none⟩ (.int .i64 t690)).setCell ⟨gbz4, 1, none⟩ (.int .i64 t691)).setCell ⟨gbz4, 2, none⟩ (.int .i64 t692)).setCell ⟨gbz4, 3, none⟩ (.slice Aoz9 t693.length coz9)).setCell ⟨gbz4, 4, none⟩ (.slice Aoz10 t696.length coz10)).setCell ⟨gbz4, 5, none⟩ (.slice Aoz11 t699.length coz11)).setCell ⟨gbz4, 6, none⟩ (.slice Aoz12 t702.length coz12)).setCell ⟨gbz4, 7, none⟩ (.int .i64 t705)).setCell ⟨gbz4, 8, none⟩ (.int .i64 t706)).setCell ⟨gbz4, 9, none⟩ (.bool t707)) w.heap.size (fun k_ => some k_ ≠ (.slice Aoz1 t650.length coz1 : Value).ownBlock ∧ some k_ ≠ (.slice Aoz2 t653.length coz2 : Value).ownBlock ∧ some k_ ≠ (.slice Aoz3 t656.length coz3 : Value).ownBlock ∧ some k_ ≠ (.slice Aoz4 t659.length coz4 : Value).ownBlock ∧ some k_ ≠ (.slice Aoz5 t672.length coz5 : Value).ownBlock ∧ some k_ ≠ (.slice Aoz6 t675.length coz6 : Value).ownBlock ∧ some k_ ≠ (.slice Aoz7 t678.length coz7 : Value).ownBlock ∧ some k_ ≠ (.slice Aoz8 t681.length coz8 : Value).ownBlock ∧ some k_ ≠ (.slice Aoz10 t696.length coz10 : Value).ownBlock ∧ some k_ ≠ (.slice Aoz11 t699.length coz11 : Value).ownBlock ∧ some k_ ≠ (.slice Aoz12 t702.length coz12 : Value).ownBlock) (.slice Aoz9 t693.length coz9) t693) := ⟨by (with_reducible repeat (first | apply Kd.R_alloc | apply Kd.R_drewN | apply Kd.R_drew)); exact Kd.R_mono (far10_ (Kd.R_types HOz9.out BKz4.out (by decide)) gbz4 (fun _ hk => hk.2) (.int .i64 t690) (.int .i64 t691) (.int .i64 t692) (.slice Aoz9 t693.length coz9) (.slice Aoz10 t696.length coz10) (.slice Aoz11 t699.length coz11) (.slice Aoz12 t702.length coz12) (.int .i64 t705) (.int .i64 t706) (.bool t707)) (fun _ hk => ⟨hk.1.1.1.1.1.1.1.1.2, ⟨hk.1.1.1.1.1.1.1.2, ⟨hk.1.1.1.1.1.1.2, ⟨hk.1.1.1.1.1.2, ⟨hk.1.1.1.1.2, ⟨hk.1.1.1.2, ⟨hk.1.1.2, ⟨hk.1.2, ⟨hk.1.1.1.1.1.1.1.1.1.1, ⟨hk.1.1.1.1.1.1.1.1.1.2.1, hk.1.1.1.1.1.1.1.1.1.2.2⟩⟩⟩⟩⟩⟩⟩⟩⟩⟩)⟩
      have nz10_ : Aside0 (Kd.R (Kd.int .i64) 3 ((((((((((wz8.setCell ⟨gbz4, 0, none⟩ (.int .i64 t690)).setCell ⟨gbz4, 1, none⟩ (.int .i64 t691)).setCell ⟨gbz4, 2, none⟩ (.int .i64 t692)).setCell ⟨gbz4, 3, none⟩ (.slice Aoz9 t693.length coz9)).setCell ⟨gbz4, 4, none⟩ (.slice Aoz10 t696.length coz10)).setCell ⟨gbz4, 5, none⟩ (.slice Aoz11 t699.length coz11)).setCell ⟨gbz4, 6, none⟩ (.slice Aoz12 t702.length coz12)).setCell ⟨gbz4, 7, none⟩ (.int .i64 t705)).setCell ⟨gbz4, 8, none⟩ (.int .i64 t706)).setCell ⟨gbz4, 9, none⟩ (.bool t707)) w.heap.size (fun k_ => some k_ ≠ (.slice Aoz1 t650.length coz1 : Value).ownBlock ∧ some k_ ≠ (.slice Aoz2 t653.length coz2 : Value).ownBlock ∧ some k_ ≠ (.slice Aoz3 t656.length coz3 : Value).ownBlock ∧ some k_ ≠ (.slice Aoz4 t659.length coz4 : Value).ownBlock ∧ some k_ ≠ (.slice Aoz5 t672.length coz5 : Value).ownBlock ∧ some k_ ≠ (.slice Aoz6 t675.length coz6 : Value).ownBlock ∧ some k_ ≠ (.slice Aoz7 t678.length coz7 : Value).ownBlock ∧ some k_ ≠ (.slice Aoz8 t681.length coz8 : Value).ownBlock ∧ some k_ ≠ (.slice Aoz9 t693.length coz9 : Value).ownBlock ∧ some k_ ≠ (.slice Aoz11 t699.length coz11 : Value).ownBlock ∧ some k_ ≠ (.slice Aoz12 t702.length coz12 : Value).ownBlock) (.slice Aoz10 t696.length coz10) t696) := ⟨by (with_reducible repeat (first | apply Kd.R_alloc | apply Kd.R_drewN | apply Kd.R_drew)); exact Kd.R_mono (far10_ (Kd.R_types HOz10.out BKz4.out (by decide)) gbz4 (fun _ hk => hk.2) (.int .i64 t690) (.int .i64 t691) (.int .i64 t692) (.slice Aoz9 t693.length coz9) (.slice Aoz10 t696.length coz10) (.slice Aoz11 t699.length coz11) (.slice Aoz12 t702.length coz12) (.int .i64 t705) (.int .i64 t706) (.bool t707)) (fun _ hk => ⟨hk.1.1.1.1.1.1.1.1.2, ⟨hk.1.1.1.1.1.1.1.2, ⟨hk.1.1.1.1.1.1.2, ⟨hk.1.1.1.1.1.2, ⟨hk.1.1.1.1.2, ⟨hk.1.1.1.2, ⟨hk.1.1.2, ⟨hk.1.2, ⟨hk.1.1.1.1.1.1.1.1.1.1, ⟨hk.1.1.1.1.1.1.1.1.1.2.1, hk.1.1.1.1.1.1.1.1.1.2.2⟩⟩⟩⟩⟩⟩⟩⟩⟩⟩)⟩
      have nz11_ : Aside0 (Kd.R (Kd.int .i64) 3 ((((((((((wz8.setCell ⟨gbz4, 0, none⟩ (.int .i64 t690)).setCell ⟨gbz4, 1, none⟩ (.int .i64 t691)).setCell ⟨gbz4, 2, none⟩ (.int .i64 t692)).setCell ⟨gbz4, 3, none⟩ (.slice Aoz9 t693.length coz9)).setCell ⟨gbz4, 4, none⟩ (.slice Aoz10 t696.length coz10)).setCell ⟨gbz4, 5, none⟩ (.slice Aoz11 t699.length coz11)).setCell ⟨gbz4, 6, none⟩ (.slice Aoz12 t702.length coz12)).setCell ⟨gbz4, 7, none⟩ (.int .i64 t705)).setCell ⟨gbz4, 8, none⟩ (.int .i64 t706)).setCell ⟨gbz4, 9, none⟩ (.bool t707)) w.heap.size (fun k_ => some k_ ≠ (.slice Aoz1 t650.length coz1 : Value).ownBlock ∧ some k_ ≠ (.slice Aoz2 t653.length coz2 : Value).ownBlock ∧ some k_ ≠ (.slice Aoz3 t656.length coz3 : Value).ownBlock ∧ some k_ ≠ (.slice Aoz4 t659.length coz4 : Value).ownBlock ∧ some k_ ≠ (.slice Aoz5 t672.length coz5 : Value).ownBlock ∧ some k_ ≠ (.slice Aoz6 t675.length coz6 : Value).ownBlock ∧ some k_ ≠ (.slice Aoz7 t678.length coz7 : Value).ownBlock ∧ some k_ ≠ (.slice Aoz8 t681.length coz8 : Value).ownBlock ∧ some k_ ≠ (.slice Aoz9 t693.length coz9 : Value).ownBlock ∧ some k_ ≠ (.slice Aoz10 t696.length coz10 : Value).ownBlock ∧ some k_ ≠ (.slice Aoz12 t702.length coz12 : Value).ownBlock) (.slice Aoz11 t699.length coz11) t699) := ⟨by (with_reducible repeat (first | apply Kd.R_alloc | apply Kd.R_drewN | apply Kd.R_drew)); exact Kd.R_mono (far10_ (Kd.R_types HOz11.out BKz4.out (by decide)) gbz4 (fun _ hk => hk.2) (.int .i64 t690) (.int .i64 t691) (.int .i64 t692) (.slice Aoz9 t693.length coz9) (.slice Aoz10 t696.length coz10) (.slice Aoz11 t699.length coz11) (.slice Aoz12 t702.length coz12) (.int .i64 t705) (.int .i64 t706) (.bool t707)) (fun _ hk => ⟨hk.1.1.1.1.1.1.1.1.2, ⟨hk.1.1.1.1.1.1.1.2, ⟨hk.1.1.1.1.1.1.2, ⟨hk.1.1.1.1.1.2, ⟨hk.1.1.1.1.2, ⟨hk.1.1.1.2, ⟨hk.1.1.2, ⟨hk.1.2, ⟨hk.1.1.1.1.1.1.1.1.1.1, ⟨hk.1.1.1.1.1.1.1.1.1.2.1, hk.1.1.1.1.1.1.1.1.1.2.2⟩⟩⟩⟩⟩⟩⟩⟩⟩⟩)⟩
      have nz12_ : Aside0 (Kd.R (Kd.int .i64) 3 ((((((((((wz8.setCell ⟨gbz4, 0, none⟩ (.int .i64 t690)).setCell ⟨gbz4, 1, none⟩ (.int .i64 t691)).setCell ⟨gbz4, 2, none⟩ (.int .i64 t692)).setCell ⟨gbz4, 3, none⟩ (.slice Aoz9 t693.length coz9)).setCell ⟨gbz4, 4, none⟩ (.slice Aoz10 t696.length coz10)).setCell ⟨gbz4, 5, none⟩ (.slice Aoz11 t699.length coz11)).setCell ⟨gbz4, 6, none⟩ (.slice Aoz12 t702.length coz12)).setCell ⟨gbz4, 7, none⟩ (.int .i64 t705)).setCell ⟨gbz4, 8, none⟩ (.int .i64 t706)).setCell ⟨gbz4, 9, none⟩ (.bool t707)) w.heap.size (fun k_ => some k_ ≠ (.slice Aoz1 t650.length coz1 : Value).ownBlock ∧ some k_ ≠ (.slice Aoz2 t653.length coz2 : Value).ownBlock ∧ some k_ ≠ (.slice Aoz3 t656.length coz3 : Value).ownBlock ∧ some k_ ≠ (.slice Aoz4 t659.length coz4 : Value).ownBlock ∧ some k_ ≠ (.slice Aoz5 t672.length coz5 : Value).ownBlock ∧ some k_ ≠ (.slice Aoz6 t675.length coz6 : Value).ownBlock ∧ some k_ ≠ (.slice Aoz7 t678.length coz7 : Value).ownBlock ∧ some k_ ≠ (.slice Aoz8 t681.length coz8 : Value).ownBlock ∧ some k_ ≠ (.slice Aoz9 t693.length coz9 : Value).ownBlock ∧ some k_ ≠ (.slice Aoz10 t696.length coz10 : Value).ownBlock ∧ some k_ ≠ (.slice Aoz11 t699.length coz11 : Value).ownBlock) (.slice Aoz12 t702.length coz12) t702) := ⟨by (with_reducible repeat (first | apply Kd.R_alloc | apply Kd.R_drewN | apply Kd.R_drew)); exact Kd.R_mono (far10_ (Kd.R_types HOz12.out BKz4.out (by decide)) gbz4 (fun _ hk => hk.2) (.int .i64 t690) (.int .i64 t691) (.int .i64 t692) (.slice Aoz9 t693.length coz9) (.slice Aoz10 t696.length coz10) (.slice Aoz11 t699.length coz11) (.slice Aoz12 t702.length coz12) (.int .i64 t705) (.int .i64 t706) (.bool t707)) (fun _ hk => ⟨hk.1.1.1.1.1.1.1.1.2, ⟨hk.1.1.1.1.1.1.1.2, ⟨hk.1.1.1.1.1.1.2, ⟨hk.1.1.1.1.1.2, ⟨hk.1.1.1.1.2, ⟨hk.1.1.1.2, ⟨hk.1.1.2, ⟨hk.1.2, ⟨hk.1.1.1.1.1.1.1.1.1.1, ⟨hk.1.1.1.1.1.1.1.1.1.2.1, hk.1.1.1.1.1.1.1.1.1.2.2⟩⟩⟩⟩⟩⟩⟩⟩⟩⟩)⟩
      have nz13_ : Aside0 (((((((((((wz8.setCell ⟨gbz4, 0, none⟩ (.int .i64 t690)).setCell ⟨gbz4, 1, none⟩ (.int .i64 t691)).setCell ⟨gbz4, 2, none⟩ (.int .i64 t692)).setCell ⟨gbz4, 3, none⟩ (.slice Aoz9 t693.length coz9)).setCell ⟨gbz4, 4, none⟩ (.slice Aoz10 t696.length coz10)).setCell ⟨gbz4, 5, none⟩ (.slice Aoz11 t699.length coz11)).setCell ⟨gbz4, 6, none⟩ (.slice Aoz12 t702.length coz12)).setCell ⟨gbz4, 7, none⟩ (.int .i64 t705)).setCell ⟨gbz4, 8, none⟩ (.int .i64 t706)).setCell ⟨gbz4, 9, none⟩ (.bool t707)).heap[gbz1]? = some (.cells #[.int .i64 a1_0, .int .i64 a1_1, .int .i64 a1_2, .slice A1_3 l1_3.length c1_3, .slice A1_4 l1_4.length c1_4, .slice A1_5 l1_5.length c1_5, .slice A1_6 l1_6.length c1_6, .int .i64 a1_7, .int .i64 a1_8, .bool a1_9] 25 (0, 0))) := ⟨dF10_ BKz1 NBz1_710⟩
      have nz14_ : Aside0 (((((((((((wz8.setCell ⟨gbz4, 0, none⟩ (.int .i64 t690)).setCell ⟨gbz4, 1, none⟩ (.int .i64 t691)).setCell ⟨gbz4, 2, none⟩ (.int .i64 t692)).setCell ⟨gbz4, 3, none⟩ (.slice Aoz9 t693.length coz9)).setCell ⟨gbz4, 4, none⟩ (.slice Aoz10 t696.length coz10)).setCell ⟨gbz4, 5, none⟩ (.slice Aoz11 t699.length coz11)).setCell ⟨gbz4, 6, none⟩ (.slice Aoz12 t702.length coz12)).setCell ⟨gbz4, 7, none⟩ (.int .i64 t705)).setCell ⟨gbz4, 8, none⟩ (.int .i64 t706)).setCell ⟨gbz4, 9, none⟩ (.bool t707)).heap[gbz2]? = some (.cells #[.int .i64 t647, .int .i64 t648, .int .i64 t649, .slice Aoz1 t650.length coz1, .slice Aoz2 t653.length coz2, .slice Aoz3 t656.length coz3, .slice Aoz4 t659.length coz4, .int .i64 t662, .int .i64 t663, .bool t664] 25 (0, 0))) := ⟨dF10_ BKz2 NBz2_710⟩
      have nz15_ : Aside0 (((((((((((wz8.setCell ⟨gbz4, 0, none⟩ (.int .i64 t690)).setCell ⟨gbz4, 1, none⟩ (.int .i64 t691)).setCell ⟨gbz4, 2, none⟩ (.int .i64 t692)).setCell ⟨gbz4, 3, none⟩ (.slice Aoz9 t693.length coz9)).setCell ⟨gbz4, 4, none⟩ (.slice Aoz10 t696.length coz10)).setCell ⟨gbz4, 5, none⟩ (.slice Aoz11 t699.length coz11)).setCell ⟨gbz4, 6, none⟩ (.slice Aoz12 t702.length coz12)).setCell ⟨gbz4, 7, none⟩ (.int .i64 t705)).setCell ⟨gbz4, 8, none⟩ (.int .i64 t706)).setCell ⟨gbz4, 9, none⟩ (.bool t707)).heap[gbz3]? = some (.cells #[.int .i64 t669, .int .i64 t670, .int .i64 t671, .slice Aoz5 t672.length coz5, .slice Aoz6 t675.length coz6, .slice Aoz7 t678.length coz7, .slice Aoz8 t681.length coz8, .int .i64 t684, .int .i64 t685, .bool t686] 25 (0, 0))) := ⟨dF10_ BKz3 NBz3_710⟩
      have nz16_ : Aside0 (((((((((((wz8.setCell ⟨gbz4, 0, none⟩ (.int .i64 t690)).setCell ⟨gbz4, 1, none⟩ (.int .i64 t691)).setCell ⟨gbz4, 2, none⟩ (.int .i64 t692)).setCell ⟨gbz4, 3, none⟩ (.slice Aoz9 t693.length coz9)).setCell ⟨gbz4, 4, none⟩ (.slice Aoz10 t696.length coz10)).setCell ⟨gbz4, 5, none⟩ (.slice Aoz11 t699.length coz11)).setCell ⟨gbz4, 6, none⟩ (.slice Aoz12 t702.length coz12)).setCell ⟨gbz4, 7, none⟩ (.int .i64 t705)).setCell ⟨gbz4, 8, none⟩ (.int .i64 t706)).setCell ⟨gbz4, 9, none⟩ (.bool t707)).heap[gbz4]? = some (.cells #[.int .i64 t690, .int .i64 t691, .int .i64 t692, .slice Aoz9 t693.length coz9, .slice Aoz10 t696.length coz10, .slice Aoz11 t699.length coz11, .slice Aoz12 t702.length coz12, .int .i64 t705, .int .i64 t706, .bool t707] 25 (0, 0))) := ⟨dP10_ BKz4⟩
      have nz17_ : Aside0 (Below w.heap.size w ((((((((((wz8.setCell ⟨gbz4, 0, none⟩ (.int .i64 t690)).setCell ⟨gbz4, 1, none⟩ (.int .i64 t691)).setCell ⟨gbz4, 2, none⟩ (.int .i64 t692)).setCell ⟨gbz4, 3, none⟩ (.slice Aoz9 t693.length coz9)).setCell ⟨gbz4, 4, none⟩ (.slice Aoz10 t696.length coz10)).setCell ⟨gbz4, 5, none⟩ (.slice Aoz11 t699.length coz11)).setCell ⟨gbz4, 6, none⟩ (.slice Aoz12 t702.length coz12)).setCell ⟨gbz4, 7, none⟩ (.int .i64 t705)).setCell ⟨gbz4, 8, none⟩ (.int .i64 t706)).setCell ⟨gbz4, 9, none⟩ (.bool t707))) := ⟨dL4_ HB GEz1 GEz2 GEz3 GEz4⟩
      (try clear HOz1)
      (try clear HOz2)
      (try clear HOz3)
      (try clear HOz4)
      (try clear HOz5)
      (try clear HOz6)
      (try clear HOz7)
      (try clear HOz8)
      (try clear HOz9)
      (try clear HOz10)
      (try clear HOz11)
      (try clear HOz12)
      (try clear BKz1)
      (try clear BKz2)
      (try clear BKz3)
      (try clear BKz4)
      (try clear HB)
      generalize ((((((((((wz8.setCell ⟨gbz4, 0, none⟩ (.int .i64 t690)).setCell ⟨gbz4, 1, none⟩ (.int .i64 t691)).setCell ⟨gbz4, 2, none⟩ (.int .i64 t692)).setCell ⟨gbz4, 3, none⟩ (.slice Aoz9 t693.length coz9)).setCell ⟨gbz4, 4, none⟩ (.slice Aoz10 t696.length coz10)).setCell ⟨gbz4, 5, none⟩ (.slice Aoz11 t699.length coz11)).setCell ⟨gbz4, 6, none⟩ (.slice Aoz12 t702.length coz12)).setCell ⟨gbz4, 7, none⟩ (.int .i64 t705)).setCell ⟨gbz4, 8, none⟩ (.int .i64 t706)).setCell ⟨gbz4, 9, none⟩ (.bool t707)) = wz9 at nz1_ nz2_ nz3_ nz4_ nz5_ nz6_ nz7_ nz8_ nz9_ nz10_ nz11_ nz12_ nz13_ nz14_ nz15_ nz16_ nz17_ ⊢
      have HOz1 := nz1_
      have HOz2 := nz2_
      have HOz3 := nz3_
      have HOz4 := nz4_
      have HOz5 := nz5_
      have HOz6 := nz6_
      have HOz7 := nz7_
      have HOz8 := nz8_
      have HOz9 := nz9_
      have HOz10 := nz10_
      have HOz11 := nz11_
      have HOz12 := nz12_
      have BKz1 := nz13_
      have BKz2 := nz14_
      have BKz3 := nz15_
      have BKz4 := nz16_
      have HB := nz17_
      clear nz1_ nz2_ nz3_ nz4_ nz5_ nz6_ nz7_ nz8_ nz9_ nz10_ nz11_ nz12_ nz13_ nz14_ nz15_ nz16_ nz17_
      have nz1_ := Aside0.mk (Kd.R_drew HOz1.out)
      have nz2_ := Aside0.mk (Kd.R_drew HOz2.out)
      have nz3_ := Aside0.mk (Kd.R_drew HOz3.out)
      have nz4_ := Aside0.mk (Kd.R_drew HOz4.out)
      have nz5_ := Aside0.mk (Kd.R_drew HOz5.out)
      have nz6_ := Aside0.mk (Kd.R_drew HOz6.out)
      have nz7_ := Aside0.mk (Kd.R_drew HOz7.out)
      have nz8_ := Aside0.mk (Kd.R_drew HOz8.out)
      have nz9_ := Aside0.mk (Kd.R_drew HOz9.out)
      have nz10_ := Aside0.mk (Kd.R_drew HOz10.out)
      have nz11_ := Aside0.mk (Kd.R_drew HOz11.out)
      have nz12_ := Aside0.mk (Kd.R_drew HOz12.out)
      have nz13_ := Aside0.mk (blk_drew BKz1.out)
      have nz14_ := Aside0.mk (blk_drew BKz2.out)
      have nz15_ := Aside0.mk (blk_drew BKz3.out)
      have nz16_ := Aside0.mk (blk_drew BKz4.out)
      have nz17_ := Aside0.mk (below_drew1 HB.out)
      clear HOz1
      clear HOz2
      clear HOz3
      clear HOz4
      clear HOz5
      clear HOz6
      clear HOz7
      clear HOz8
      clear HOz9
      clear HOz10
      clear HOz11
      clear HOz12
      clear BKz1
      clear BKz2
      clear BKz3
      clear BKz4
      clear HB
      have HOz1 := nz1_
      have HOz2 := nz2_
      have HOz3 := nz3_
      have HOz4 := nz4_
      have HOz5 := nz5_
      have HOz6 := nz6_
      have HOz7 := nz7_
      have HOz8 := nz8_
      have HOz9 := nz9_
      have HOz10 := nz10_
      have HOz11 := nz11_
      have HOz12 := nz12_
      have BKz1 := nz13_
      have BKz2 := nz14_
      have BKz3 := nz15_
      have BKz4 := nz16_
      have HB := nz17_
      clear nz1_ nz2_ nz3_ nz4_ nz5_ nz6_ nz7_ nz8_ nz9_ nz10_ nz11_ nz12_ nz13_ nz14_ nz15_ nz16_ nz17_)
   | (go_enter Try.func8, Try.ntmps8)
   go_wp2_with (first | ((with_reducible refine gate_dst (N := 5) rfl ?_); refine box_event ?hg (N := 5) ?hd (cs := #[.int .i64 a1_0, .int .i64 a1_1, .int .i64 a1_2, .slice A1_3 l1_3.length c1_3, .slice A1_4 l1_4.length c1_4, .slice A1_5 l1_5.length c1_5, .slice A1_6 l1_6.length c1_6, .int .i64 a1_7, .int .i64 a1_8, .bool a1_9]) (t := 25) ?hr ?_; (case hd => rfl); (case hg => rfl); (case hr => first | (go_simp; done) | (go_simp; rfl)); intro gbz1 hg wz1 hbox hb; have nz1_ := Aside0.mk (below_step (dL_ HB) hb); have nz2_ := Aside0.mk (hbox); have nz3_ := Aside0.mk ((dS_ hg (dL_ HB) : w.heap.size ≤ gbz1)); have nz4_ := Aside0.mk ((dS_ hg (dL_ HB) : w.heap.size ≤ gbz1)); clear HB; have HB := nz1_; have BKz1 := nz2_; have GWz1 := nz3_; have GEz1 := nz4_; clear nz1_ nz2_ nz3_ nz4_; clear hb hbox hg; obtain ⟨hczz1_0, hczz1_1, hczz1_2, hczz1_3, hczz1_4, hczz1_5, hczz1_6, hczz1_7, hczz1_8, hczz1_9, hfzz1_0, hfzz1_1, hfzz1_2, hfzz1_3, hfzz1_4, hfzz1_5, hfzz1_6, hfzz1_7, hfzz1_8, hfzz1_9⟩ := cs10_ BKz1.out) | ((with_reducible refine gate_callee (f := 13) rfl ?_); refine goesL_ (some 20) rfl rfl Try.func13 (by kernel_rfl) rfl #[.slice A0 l0.length c0, .agg #[.int .i64 a1_0, .int .i64 a1_1, .int .i64 a1_2, .slice A1_3 l1_3.length c1_3, .slice A1_4 l1_4.length c1_4, .slice A1_5 l1_5.length c1_5, .slice A1_6 l1_6.length c1_6, .int .i64 a1_7, .int .i64 a1_8, .bool a1_9]] rfl tA_ ?_; (with_reducible refine (hinterlandlaw10_large.calls k _ _ l0 a1_0 a1_1 a1_2 _ _ l1_3 _ _ l1_4 _ _ l1_5 _ _ l1_6 a1_7 a1_8 a1_9 _ _ ?side1 ?side2 ?side3 ?side4 ?side5 ?side6 ?side7 ?side8 ?side9 ?side10 A5.out).mono ?_); (case side1 => exact dC_ HR0 HB); (case side2 => exact HC0.out); (case side3 => exact dC_ HR1_3 HB); (case side4 => exact HC1_3.out); (case side5 => exact dC_ HR1_4 HB); (case side6 => exact HC1_4.out); (case side7 => exact dC_ HR1_5 HB); (case side8 => exact HC1_5.out); (case side9 => exact dC_ HR1_6 HB); (case side10 => exact HC1_6.out); rintro e wz2 ⟨rfl, hb⟩; refine ⟨_, rfl, ?_⟩; have nz1_ := Aside0.mk (blk_below (g := gbz1) (o := .cells #[.int .i64 a1_0, .int .i64 a1_1, .int .i64 a1_2, .slice A1_3 l1_3.length c1_3, .slice A1_4 l1_4.length c1_4, .slice A1_5 l1_5.length c1_5, .slice A1_6 l1_6.length c1_6, .int .i64 a1_7, .int .i64 a1_8, .bool a1_9] 25 (0, 0)) (dB_ BKz1) hb); have nz2_ := Aside0.mk (below_step (dL1_ HB GEz1) hb); clear BKz1; clear HB; have BKz1 := nz1_; have HB := nz2_; clear nz1_ nz2_; obtain ⟨hczz2_0, hczz2_1, hczz2_2, hczz2_3, hczz2_4, hczz2_5, hczz2_6, hczz2_7, hczz2_8, hczz2_9, hfzz2_0, hfzz2_1, hfzz2_2, hfzz2_3, hfzz2_4, hfzz2_5, hfzz2_6, hfzz2_7, hfzz2_8, hfzz2_9⟩ := cs10_ BKz1.out) | ((with_reducible refine gate_callee (f := 22) rfl ?_); refine goesL_ (some 27) rfl rfl Try.func22 (by kernel_rfl) rfl #[.slice A0 l0.length c0, .agg #[.int .i64 a1_0, .int .i64 a1_1, .int .i64 a1_2, .slice A1_3 l1_3.length c1_3, .slice A1_4 l1_4.length c1_4, .slice A1_5 l1_5.length c1_5, .slice A1_6 l1_6.length c1_6, .int .i64 a1_7, .int .i64 a1_8, .bool a1_9], .int .i64 a2, .int .i64 a3] rfl tA_ ?_; (with_reducible refine (plant_Haul.calls k _ _ l0 a1_0 a1_1 a1_2 _ _ l1_3 _ _ l1_4 _ _ l1_5 _ _ l1_6 a1_7 a1_8 a1_9 a2 a3 t647 t648 t649 t650 t653 t656 t659 t662 t663 t664 t665 t666 _ ?side1 ?side2 ?side3 ?side4 ?side5 ?side6 ?side7 ?side8 ?side9 ?side10 A12.out).mono ?_); (case side1 => exact dC_ HR0 HB); (case side2 => exact HC0.out); (case side3 => exact dC_ HR1_3 HB); (case side4 => exact HC1_3.out); (case side5 => exact dC_ HR1_4 HB); (case side6 => exact HC1_4.out); (case side7 => exact dC_ HR1_5 HB); (case side8 => exact HC1_5.out); (case side9 => exact dC_ HR1_6 HB); (case side10 => exact HC1_6.out); rintro e wz3 ⟨vz1, vz2, vz3, vz4, rfl, hoz1, hoz2, hoz3, hoz4, hb⟩; refine ⟨_, rfl, ?_⟩; have nz1_ := Aside0.mk (Kd.R_lower hoz1 (below_size (dL1_ HB GEz1))); have nz2_ := Aside0.mk (Kd.R_lower hoz2 (below_size (dL1_ HB GEz1))); have nz3_ := Aside0.mk (Kd.R_lower hoz3 (below_size (dL1_ HB GEz1))); have nz4_ := Aside0.mk (Kd.R_lower hoz4 (below_size (dL1_ HB GEz1))); have nz5_ := Aside0.mk (blk_below (g := gbz1) (o := .cells #[.int .i64 a1_0, .int .i64 a1_1, .int .i64 a1_2, .slice A1_3 l1_3.length c1_3, .slice A1_4 l1_4.length c1_4, .slice A1_5 l1_5.length c1_5, .slice A1_6 l1_6.length c1_6, .int .i64 a1_7, .int .i64 a1_8, .bool a1_9] 25 (0, 0)) (dB_ BKz1) hb); have nz6_ := Aside0.mk (below_step (dL1_ HB GEz1) hb); clear BKz1; clear HB; have HOz1 := nz1_; have HOz2 := nz2_; have HOz3 := nz3_; have HOz4 := nz4_; have BKz1 := nz5_; have HB := nz6_; clear nz1_ nz2_ nz3_ nz4_ nz5_ nz6_) | ((with_reducible refine gate_dst (N := 9) rfl ?_); refine box_event ?hg (N := 9) ?hd (cs := #[.int .i64 0, .int .i64 0, .int .i64 0, .slice none 0 0, .slice none 0 0, .slice none 0 0, .slice none 0 0, .int .i64 0, .int .i64 0, .bool false]) (t := 25) ?hr ?_; (case hd => rfl); (case hg => rfl); (case hr => first | (go_simp; done) | (go_simp; rfl)); intro gbz2 hg wz4 hbox hb; have nz1_ := Aside0.mk (Kd.R_below (dR_ HOz1) hb); have nz2_ := Aside0.mk (Kd.R_below (dR_ HOz2) hb); have nz3_ := Aside0.mk (Kd.R_below (dR_ HOz3) hb); have nz4_ := Aside0.mk (Kd.R_below (dR_ HOz4) hb); have nz5_ := Aside0.mk (blk_below (g := gbz1) (o := .cells #[.int .i64 a1_0, .int .i64 a1_1, .int .i64 a1_2, .slice A1_3 l1_3.length c1_3, .slice A1_4 l1_4.length c1_4, .slice A1_5 l1_5.length c1_5, .slice A1_6 l1_6.length c1_6, .int .i64 a1_7, .int .i64 a1_8, .bool a1_9] 25 (0, 0)) (dB_ BKz1) hb); have nz6_ := Aside0.mk (below_step (dL1_ HB GEz1) hb); have nz7_ := Aside0.mk (hbox); have nz8_ := Aside0.mk ((dS_ hg (dL1_ HB GEz1) : w.heap.size ≤ gbz2)); have nz9_ := Aside0.mk ((dS_ hg (dL1_ HB GEz1) : w.heap.size ≤ gbz2)); have nz10_ := Aside0.mk ((by rw [hg]; exact Nat.ne_of_lt (blk_lt (dB_ BKz1)) : gbz1 ≠ gbz2)); have nz11_ := Aside0.mk ((by rw [hg]; exact Nat.ne_of_gt (blk_lt (dB_ BKz1)) : gbz2 ≠ gbz1)); clear HOz1; clear HOz2; clear HOz3; clear HOz4; clear BKz1; clear HB; have HOz1 := nz1_; have HOz2 := nz2_; have HOz3 := nz3_; have HOz4 := nz4_; have BKz1 := nz5_; have HB := nz6_; have BKz2 := nz7_; have GWz2 := nz8_; have GEz2 := nz9_; have NBz1_667 := nz10_; have NBz2_644 := nz11_; clear nz1_ nz2_ nz3_ nz4_ nz5_ nz6_ nz7_ nz8_ nz9_ nz10_ nz11_; clear hb hbox hg; have hnbz1 := NBz2_644.out; have hncz1 := NBz1_667.out; obtain ⟨hczz3_0, hczz3_1, hczz3_2, hczz3_3, hczz3_4, hczz3_5, hczz3_6, hczz3_7, hczz3_8, hczz3_9, hfzz3_0, hfzz3_1, hfzz3_2, hfzz3_3, hfzz3_4, hfzz3_5, hfzz3_6, hfzz3_7, hfzz3_8, hfzz3_9⟩ := cs10_ BKz2.out; obtain ⟨Aoz1, coz1, eoz1⟩ := Kd.R_slice HOz1.out; subst eoz1; obtain ⟨Aoz2, coz2, eoz2⟩ := Kd.R_slice HOz2.out; subst eoz2; obtain ⟨Aoz3, coz3, eoz3⟩ := Kd.R_slice HOz3.out; subst eoz3; obtain ⟨Aoz4, coz4, eoz4⟩ := Kd.R_slice HOz4.out; subst eoz4) | (go_at_call 14; (with_reducible refine (hinterlandlaw10_known.calls k  t668 _ A339.out).mono ?_); rintro e wz5 ⟨rfl, hb⟩; have nz1_ := Aside0.mk (Kd.R_below (by (with_reducible repeat (first | apply Kd.R_alloc | apply Kd.R_drewN | apply Kd.R_drew)); exact (Kd.R_mono (far10_ (Kd.R_types HOz1.out BKz2.out (by decide)) gbz2 (fun _ hk => hk.2) (.int .i64 t647) (.int .i64 t648) (.int .i64 t649) (.slice Aoz1 t650.length coz1) (.slice Aoz2 t653.length coz2) (.slice Aoz3 t656.length coz3) (.slice Aoz4 t659.length coz4) (.int .i64 t662) (.int .i64 t663) (.bool t664)) (fun _ h_ => h_.1))) hb); have nz2_ := Aside0.mk (Kd.R_below (by (with_reducible repeat (first | apply Kd.R_alloc | apply Kd.R_drewN | apply Kd.R_drew)); exact (Kd.R_mono (far10_ (Kd.R_types HOz2.out BKz2.out (by decide)) gbz2 (fun _ hk => hk.2) (.int .i64 t647) (.int .i64 t648) (.int .i64 t649) (.slice Aoz1 t650.length coz1) (.slice Aoz2 t653.length coz2) (.slice Aoz3 t656.length coz3) (.slice Aoz4 t659.length coz4) (.int .i64 t662) (.int .i64 t663) (.bool t664)) (fun _ h_ => h_.1))) hb); have nz3_ := Aside0.mk (Kd.R_below (by (with_reducible repeat (first | apply Kd.R_alloc | apply Kd.R_drewN | apply Kd.R_drew)); exact (Kd.R_mono (far10_ (Kd.R_types HOz3.out BKz2.out (by decide)) gbz2 (fun _ hk => hk.2) (.int .i64 t647) (.int .i64 t648) (.int .i64 t649) (.slice Aoz1 t650.length coz1) (.slice Aoz2 t653.length coz2) (.slice Aoz3 t656.length coz3) (.slice Aoz4 t659.length coz4) (.int .i64 t662) (.int .i64 t663) (.bool t664)) (fun _ h_ => h_.1))) hb); have nz4_ := Aside0.mk (Kd.R_below (by (with_reducible repeat (first | apply Kd.R_alloc | apply Kd.R_drewN | apply Kd.R_drew)); exact (Kd.R_mono (far10_ (Kd.R_types HOz4.out BKz2.out (by decide)) gbz2 (fun _ hk => hk.2) (.int .i64 t647) (.int .i64 t648) (.int .i64 t649) (.slice Aoz1 t650.length coz1) (.slice Aoz2 t653.length coz2) (.slice Aoz3 t656.length coz3) (.slice Aoz4 t659.length coz4) (.int .i64 t662) (.int .i64 t663) (.bool t664)) (fun _ h_ => h_.1))) hb); have nz5_ := Aside0.mk (blk_below (g := gbz1) (o := .cells #[.int .i64 a1_0, .int .i64 a1_1, .int .i64 a1_2, .slice A1_3 l1_3.length c1_3, .slice A1_4 l1_4.length c1_4, .slice A1_5 l1_5.length c1_5, .slice A1_6 l1_6.length c1_6, .int .i64 a1_7, .int .i64 a1_8, .bool a1_9] 25 (0, 0)) (dF10_ BKz1 NBz1_667) hb); have nz6_ := Aside0.mk (blk_below (g := gbz2) (o := .cells #[.int .i64 t647, .int .i64 t648, .int .i64 t649, .slice Aoz1 t650.length coz1, .slice Aoz2 t653.length coz2, .slice Aoz3 t656.length coz3, .slice Aoz4 t659.length coz4, .int .i64 t662, .int .i64 t663, .bool t664] 25 (0, 0)) (dP10_ BKz2) hb); have nz7_ := Aside0.mk (below_step (dL2_ HB GEz1 GEz2) hb); clear HOz1; clear HOz2; clear HOz3; clear HOz4; clear BKz1; clear BKz2; clear HB; have HOz1 := nz1_; have HOz2 := nz2_; have HOz3 := nz3_; have HOz4 := nz4_; have BKz1 := nz5_; have BKz2 := nz6_; have HB := nz7_; clear nz1_ nz2_ nz3_ nz4_ nz5_ nz6_ nz7_))
   first
   | (refine start_ (n := 50) (S := fun w' => w'.cell? ⟨gbz2, 0, none⟩ = some (.int .i64 t647) ∧ w'.cell? ⟨gbz2, 1, none⟩ = some (.int .i64 t648) ∧ w'.cell? ⟨gbz2, 2, none⟩ = some (.int .i64 t649) ∧ w'.cell? ⟨gbz2, 3, none⟩ = some (.slice Aoz1 t650.length coz1) ∧ w'.cell? ⟨gbz2, 4, none⟩ = some (.slice Aoz2 t653.length coz2) ∧ w'.cell? ⟨gbz2, 5, none⟩ = some (.slice Aoz3 t656.length coz3) ∧ w'.cell? ⟨gbz2, 6, none⟩ = some (.slice Aoz4 t659.length coz4) ∧ w'.cell? ⟨gbz2, 7, none⟩ = some (.int .i64 t662) ∧ w'.cell? ⟨gbz2, 8, none⟩ = some (.int .i64 t663) ∧ w'.cell? ⟨gbz2, 9, none⟩ = some (.bool t664) ∧ w'.cell? ⟨gbz1, 0, none⟩ = some (.int .i64 a1_0) ∧ w'.cell? ⟨gbz1, 1, none⟩ = some (.int .i64 a1_1) ∧ w'.cell? ⟨gbz1, 2, none⟩ = some (.int .i64 a1_2) ∧ w'.cell? ⟨gbz1, 3, none⟩ = some (.slice A1_3 l1_3.length c1_3) ∧ w'.cell? ⟨gbz1, 4, none⟩ = some (.slice A1_4 l1_4.length c1_4) ∧ w'.cell? ⟨gbz1, 5, none⟩ = some (.slice A1_5 l1_5.length c1_5) ∧ w'.cell? ⟨gbz1, 6, none⟩ = some (.slice A1_6 l1_6.length c1_6) ∧ w'.cell? ⟨gbz1, 7, none⟩ = some (.int .i64 a1_7) ∧ w'.cell? ⟨gbz1, 8, none⟩ = some (.int .i64 a1_8) ∧ w'.cell? ⟨gbz1, 9, none⟩ = some (.bool a1_9) ∧ w'.cell? ⟨gbz3, 0, none⟩ = some (.int .i64 t669) ∧ w'.cell? ⟨gbz3, 1, none⟩ = some (.int .i64 t670) ∧ w'.cell? ⟨gbz3, 2, none⟩ = some (.int .i64 t671) ∧ w'.cell? ⟨gbz3, 3, none⟩ = some (.slice Aoz5 t672.length coz5) ∧ w'.cell? ⟨gbz3, 4, none⟩ = some (.slice Aoz6 t675.length coz6) ∧ w'.cell? ⟨gbz3, 5, none⟩ = some (.slice Aoz7 t678.length coz7) ∧ w'.cell? ⟨gbz3, 6, none⟩ = some (.slice Aoz8 t681.length coz8) ∧ w'.cell? ⟨gbz3, 7, none⟩ = some (.int .i64 t684) ∧ w'.cell? ⟨gbz3, 8, none⟩ = some (.int .i64 t685) ∧ w'.cell? ⟨gbz3, 9, none⟩ = some (.bool t686) ∧ w'.cell? ⟨gbz4, 0, none⟩ = some (.int .i64 t690) ∧ w'.cell? ⟨gbz4, 1, none⟩ = some (.int .i64 t691) ∧ w'.cell? ⟨gbz4, 2, none⟩ = some (.int .i64 t692) ∧ w'.cell? ⟨gbz4, 3, none⟩ = some (.slice Aoz9 t693.length coz9) ∧ w'.cell? ⟨gbz4, 4, none⟩ = some (.slice Aoz10 t696.length coz10) ∧ w'.cell? ⟨gbz4, 5, none⟩ = some (.slice Aoz11 t699.length coz11) ∧ w'.cell? ⟨gbz4, 6, none⟩ = some (.slice Aoz12 t702.length coz12) ∧ w'.cell? ⟨gbz4, 7, none⟩ = some (.int .i64 t705) ∧ w'.cell? ⟨gbz4, 8, none⟩ = some (.int .i64 t706) ∧ w'.cell? ⟨gbz4, 9, none⟩ = some (.bool t707)) (ds := []) #[false, false, false, false, false, false, false, false, false, false, false, false, false, false, false, false, false, false, false, false, false, false, false, false, false, false, false, false, false, false, false, false, false, false, false, false, false, false, false, false, false, false, false, false, false, false, false, false, false, false] (by kernel_rfl) rfl rfl ⟨(blk_cell BKz2.out 0).trans rfl, (blk_cell BKz2.out 1).trans rfl, (blk_cell BKz2.out 2).trans rfl, (blk_cell BKz2.out 3).trans rfl, (blk_cell BKz2.out 4).trans rfl, (blk_cell BKz2.out 5).trans rfl, (blk_cell BKz2.out 6).trans rfl, (blk_cell BKz2.out 7).trans rfl, (blk_cell BKz2.out 8).trans rfl, (blk_cell BKz2.out 9).trans rfl, (blk_cell BKz1.out 0).trans rfl, (blk_cell BKz1.out 1).trans rfl, (blk_cell BKz1.out 2).trans rfl, (blk_cell BKz1.out 3).trans rfl, (blk_cell BKz1.out 4).trans rfl, (blk_cell BKz1.out 5).trans rfl, (blk_cell BKz1.out 6).trans rfl, (blk_cell BKz1.out 7).trans rfl, (blk_cell BKz1.out 8).trans rfl, (blk_cell BKz1.out 9).trans rfl, (blk_cell BKz3.out 0).trans rfl, (blk_cell BKz3.out 1).trans rfl, (blk_cell BKz3.out 2).trans rfl, (blk_cell BKz3.out 3).trans rfl, (blk_cell BKz3.out 4).trans rfl, (blk_cell BKz3.out 5).trans rfl, (blk_cell BKz3.out 6).trans rfl, (blk_cell BKz3.out 7).trans rfl, (blk_cell BKz3.out 8).trans rfl, (blk_cell BKz3.out 9).trans rfl, (blk_cell BKz4.out 0).trans rfl, (blk_cell BKz4.out 1).trans rfl, (blk_cell BKz4.out 2).trans rfl, (blk_cell BKz4.out 3).trans rfl, (blk_cell BKz4.out 4).trans rfl, (blk_cell BKz4.out 5).trans rfl, (blk_cell BKz4.out 6).trans rfl, (blk_cell BKz4.out 7).trans rfl, (blk_cell BKz4.out 8).trans rfl, (blk_cell BKz4.out 9).trans rfl⟩ (fun hHeld => ?_); refine with_tabW hinterlandlaw10_PlantHaulsAll.tab8 hinterlandlaw10_PlantHaulsAll.bits8 (fun HT_ HW_ => ?_)
      generalize wz9.drew = wz10 at HOz1 HOz2 HOz3 HOz4 HOz5 HOz6 HOz7 HOz8 HOz9 HOz10 HOz11 HOz12 BKz1 BKz2 BKz3 BKz4 HB hHeld ⊢)
   | (refine start_ (n := 50) (S := fun w' => w'.cell? ⟨gbz2, 0, none⟩ = some (.int .i64 t647) ∧ w'.cell? ⟨gbz2, 1, none⟩ = some (.int .i64 t648) ∧ w'.cell? ⟨gbz2, 2, none⟩ = some (.int .i64 t649) ∧ w'.cell? ⟨gbz2, 3, none⟩ = some (.slice Aoz1 t650.length coz1) ∧ w'.cell? ⟨gbz2, 4, none⟩ = some (.slice Aoz2 t653.length coz2) ∧ w'.cell? ⟨gbz2, 5, none⟩ = some (.slice Aoz3 t656.length coz3) ∧ w'.cell? ⟨gbz2, 6, none⟩ = some (.slice Aoz4 t659.length coz4) ∧ w'.cell? ⟨gbz2, 7, none⟩ = some (.int .i64 t662) ∧ w'.cell? ⟨gbz2, 8, none⟩ = some (.int .i64 t663) ∧ w'.cell? ⟨gbz2, 9, none⟩ = some (.bool t664) ∧ w'.cell? ⟨gbz1, 0, none⟩ = some (.int .i64 a1_0) ∧ w'.cell? ⟨gbz1, 1, none⟩ = some (.int .i64 a1_1) ∧ w'.cell? ⟨gbz1, 2, none⟩ = some (.int .i64 a1_2) ∧ w'.cell? ⟨gbz1, 3, none⟩ = some (.slice A1_3 l1_3.length c1_3) ∧ w'.cell? ⟨gbz1, 4, none⟩ = some (.slice A1_4 l1_4.length c1_4) ∧ w'.cell? ⟨gbz1, 5, none⟩ = some (.slice A1_5 l1_5.length c1_5) ∧ w'.cell? ⟨gbz1, 6, none⟩ = some (.slice A1_6 l1_6.length c1_6) ∧ w'.cell? ⟨gbz1, 7, none⟩ = some (.int .i64 a1_7) ∧ w'.cell? ⟨gbz1, 8, none⟩ = some (.int .i64 a1_8) ∧ w'.cell? ⟨gbz1, 9, none⟩ = some (.bool a1_9)) (ds := []) #[false, false, false, false, false, false, false, false, false, false, false, false, false, false, false, false, false, false, false, false, false, false, false, false, false, false, false, false, false, false, false, false, false, false, false, false, false, false, false, false, false, false, false, false, false, false, false, false, false, false] (by kernel_rfl) rfl rfl ⟨(blk_cell BKz2.out 0).trans rfl, (blk_cell BKz2.out 1).trans rfl, (blk_cell BKz2.out 2).trans rfl, (blk_cell BKz2.out 3).trans rfl, (blk_cell BKz2.out 4).trans rfl, (blk_cell BKz2.out 5).trans rfl, (blk_cell BKz2.out 6).trans rfl, (blk_cell BKz2.out 7).trans rfl, (blk_cell BKz2.out 8).trans rfl, (blk_cell BKz2.out 9).trans rfl, (blk_cell BKz1.out 0).trans rfl, (blk_cell BKz1.out 1).trans rfl, (blk_cell BKz1.out 2).trans rfl, (blk_cell BKz1.out 3).trans rfl, (blk_cell BKz1.out 4).trans rfl, (blk_cell BKz1.out 5).trans rfl, (blk_cell BKz1.out 6).trans rfl, (blk_cell BKz1.out 7).trans rfl, (blk_cell BKz1.out 8).trans rfl, (blk_cell BKz1.out 9).trans rfl⟩ (fun hHeld => ?_); refine with_tabW hinterlandlaw10_PlantHaulsAll.tab8 hinterlandlaw10_PlantHaulsAll.bits8 (fun HT_ HW_ => ?_)
      generalize wz9.drew = wz10 at HOz1 HOz2 HOz3 HOz4 HOz5 HOz6 HOz7 HOz8 HOz9 HOz10 HOz11 HOz12 BKz1 BKz2 BKz3 BKz4 HB hHeld ⊢)
   | (refine start_ (n := 50) (S := fun w' => True) (ds := []) #[false, false, false, false, false, false, false, false, false, false, false, false, false, false, false, false, false, false, false, false, false, false, false, false, false, false, false, false, false, false, false, false, false, false, false, false, false, false, false, false, false, false, false, false, false, false, false, false, false, false] (by kernel_rfl) rfl rfl trivial (fun hHeld => ?_); refine with_tabW hinterlandlaw10_PlantHaulsAll.tab8 hinterlandlaw10_PlantHaulsAll.bits8 (fun HT_ HW_ => ?_)
      generalize wz9.drew = wz10 at HOz1 HOz2 HOz3 HOz4 HOz5 HOz6 HOz7 HOz8 HOz9 HOz10 HOz11 HOz12 BKz1 BKz2 BKz3 BKz4 HB hHeld ⊢)
   | skip
   first
   | (refine pure_ (i := 0) (N := some 54) (v := ?_) (a' := ?_) #[true, false, false, false, false, false, false, false, false, false, false, false, false, false, false, false, false, false, false, false, false, false, false, false, false, false, false, false, false, false, false, false, false, false, false, false, false, false, false, false, false, false, false, false, false, false, false, false, false, false] rfl rfl (any_of HT_.out (by kernel_rfl)) (fun _ _ _ h => h) (Or.inl ⟨by rfl, ?_⟩) ?_ ?_
      rotate_left
      ·intro w'
       go_simp
       with_reducible rfl
      rotate_left
      ·simp only [Act.put, sI_, s0_, sS_, i64_w, i32_w]
       rfl)
   | skip
   first
   | (refine pure_ (i := 1) (N := some 55) (v := ?_) (a' := ?_) #[true, true, false, false, false, false, false, false, false, false, false, false, false, false, false, false, false, false, false, false, false, false, false, false, false, false, false, false, false, false, false, false, false, false, false, false, false, false, false, false, false, false, false, false, false, false, false, false, false, false] rfl rfl (any_of HT_.out (by kernel_rfl)) (fun _ _ _ h => h) (Or.inl ⟨by rfl, ?_⟩) ?_ ?_
      rotate_left
      ·intro w'
       go_simp
       with_reducible rfl
      rotate_left
      ·simp only [Act.put, sI_, s0_, sS_, i64_w, i32_w]
       rfl)
   | skip
   first
   | (refine pure_ (i := 2) (N := some 56) (v := ?_) (a' := ?_) #[true, true, true, false, false, false, false, false, false, false, false, false, false, false, false, false, false, false, false, false, false, false, false, false, false, false, false, false, false, false, false, false, false, false, false, false, false, false, false, false, false, false, false, false, false, false, false, false, false, false] rfl rfl (any_of HT_.out (by kernel_rfl)) (fun _ _ _ h => h) (Or.inl ⟨by rfl, ?_⟩) ?_ ?_
      rotate_left
      ·intro w'
       go_simp
       with_reducible rfl
      rotate_left
      ·simp only [Act.put, sI_, s0_, sS_, i64_w, i32_w]
       rfl)
   | skip
   first
   | (refine pure_ (i := 3) (N := some 57) (v := ?_) (a' := ?_) #[true, true, true, true, false, false, false, false, false, false, false, false, false, false, false, false, false, false, false, false, false, false, false, false, false, false, false, false, false, false, false, false, false, false, false, false, false, false, false, false, false, false, false, false, false, false, false, false, false, false] rfl rfl (any_of HT_.out (by kernel_rfl)) (fun _ _ _ h => h) (Or.inl ⟨by rfl, ?_⟩) ?_ ?_
      rotate_left
      ·intro w'
       go_simp
       with_reducible rfl
      rotate_left
      ·simp only [Act.put, sI_, s0_, sS_, i64_w, i32_w]
       rfl)
   | (refine pure_ (i := 3) (N := some 57) (v := undef) (a' := ?_) #[true, true, true, true, false, false, false, false, false, false, false, false, false, false, false, false, false, false, false, false, false, false, false, false, false, false, false, false, false, false, false, false, false, false, false, false, false, false, false, false, false, false, false, false, false, false, false, false, false, false] rfl rfl (any_of HT_.out (by kernel_rfl)) (fun _ _ _ h => h) (Or.inr ⟨by rfl, rfl⟩) ?_ ?_
      rotate_left
      ·simp only [Act.put, sI_, s0_, sS_, i64_w, i32_w]
       rfl)
   | skip
   first
   | (refine pure_ (i := 4) (N := some 58) (v := ?_) (a' := ?_) #[true, true, true, true, true, false, false, false, false, false, false, false, false, false, false, false, false, false, false, false, false, false, false, false, false, false, false, false, false, false, false, false, false, false, false, false, false, false, false, false, false, false, false, false, false, false, false, false, false, false] rfl rfl (any_of HT_.out (by kernel_rfl)) (fun _ _ _ h => h) (Or.inl ⟨by rfl, ?_⟩) ?_ ?_
      rotate_left
      ·intro w'
       go_simp
       with_reducible rfl
      rotate_left
      ·simp only [Act.put, sI_, s0_, sS_, i64_w, i32_w]
       rfl)
   | (refine pure_ (i := 4) (N := some 58) (v := undef) (a' := ?_) #[true, true, true, true, true, false, false, false, false, false, false, false, false, false, false, false, false, false, false, false, false, false, false, false, false, false, false, false, false, false, false, false, false, false, false, false, false, false, false, false, false, false, false, false, false, false, false, false, false, false] rfl rfl (any_of HT_.out (by kernel_rfl)) (fun _ _ _ h => h) (Or.inr ⟨by rfl, rfl⟩) ?_ ?_
      rotate_left
      ·simp only [Act.put, sI_, s0_, sS_, i64_w, i32_w]
       rfl)
   | skip
   first
   | (refine pure_ (i := 5) (N := some 59) (v := ?_) (a' := ?_) #[true, true, true, true, true, true, false, false, false, false, false, false, false, false, false, false, false, false, false, false, false, false, false, false, false, false, false, false, false, false, false, false, false, false, false, false, false, false, false, false, false, false, false, false, false, false, false, false, false, false] rfl rfl (any_of HT_.out (by kernel_rfl)) (fun _ _ _ h => h) (Or.inl ⟨by rfl, ?_⟩) ?_ ?_
      rotate_left
      ·intro w'
       go_simp
       with_reducible rfl
      rotate_left
      ·simp only [Act.put, sI_, s0_, sS_, i64_w, i32_w]
       rfl)
   | skip
   first
   | (refine pure_ (i := 6) (N := some 60) (v := ?_) (a' := ?_) #[true, true, true, true, true, true, true, false, false, false, false, false, false, false, false, false, false, false, false, false, false, false, false, false, false, false, false, false, false, false, false, false, false, false, false, false, false, false, false, false, false, false, false, false, false, false, false, false, false, false] rfl rfl (any_of HT_.out (by kernel_rfl)) (fun _ _ _ h => h) (Or.inl ⟨by rfl, ?_⟩) ?_ ?_
      rotate_left
      ·intro w'
       go_simp
       with_reducible rfl
      rotate_left
      ·simp only [Act.put, sI_, s0_, sS_, i64_w, i32_w]
       rfl)
   | skip
   first
   | (refine pure_ (i := 7) (N := some 61) (v := ?_) (a' := ?_) #[true, true, true, true, true, true, true, true, false, false, false, false, false, false, false, false, false, false, false, false, false, false, false, false, false, false, false, false, false, false, false, false, false, false, false, false, false, false, false, false, false, false, false, false, false, false, false, false, false, false] rfl rfl (any_of HT_.out (by kernel_rfl)) (fun _ _ _ h => h) (Or.inl ⟨by rfl, ?_⟩) ?_ ?_
      rotate_left
      ·intro w'
       go_simp
       with_reducible rfl
      rotate_left
      ·simp only [Act.put, sI_, s0_, sS_, i64_w, i32_w]
       rfl)
   | (refine pure_ (i := 7) (N := some 61) (v := undef) (a' := ?_) #[true, true, true, true, true, true, true, true, false, false, false, false, false, false, false, false, false, false, false, false, false, false, false, false, false, false, false, false, false, false, false, false, false, false, false, false, false, false, false, false, false, false, false, false, false, false, false, false, false, false] rfl rfl (any_of HT_.out (by kernel_rfl)) (fun _ _ _ h => h) (Or.inr ⟨by rfl, rfl⟩) ?_ ?_
      rotate_left
      ·simp only [Act.put, sI_, s0_, sS_, i64_w, i32_w]
       rfl)
   | skip
   first
   | (refine pure_ (i := 8) (N := some 62) (v := ?_) (a' := ?_) #[true, true, true, true, true, true, true, true, true, false, false, false, false, false, false, false, false, false, false, false, false, false, false, false, false, false, false, false, false, false, false, false, false, false, false, false, false, false, false, false, false, false, false, false, false, false, false, false, false, false] rfl rfl (any_of HT_.out (by kernel_rfl)) (fun _ _ _ h => h) (Or.inl ⟨by rfl, ?_⟩) ?_ ?_
      rotate_left
      ·intro w'
       go_simp
       with_reducible rfl
      rotate_left
      ·simp only [Act.put, sI_, s0_, sS_, i64_w, i32_w]
       rfl)
   | (refine pure_ (i := 8) (N := some 62) (v := undef) (a' := ?_) #[true, true, true, true, true, true, true, true, true, false, false, false, false, false, false, false, false, false, false, false, false, false, false, false, false, false, false, false, false, false, false, false, false, false, false, false, false, false, false, false, false, false, false, false, false, false, false, false, false, false] rfl rfl (any_of HT_.out (by kernel_rfl)) (fun _ _ _ h => h) (Or.inr ⟨by rfl, rfl⟩) ?_ ?_
      rotate_left
      ·simp only [Act.put, sI_, s0_, sS_, i64_w, i32_w]
       rfl)
   | skip
   first
   | (refine pure_ (i := 9) (N := some 63) (v := ?_) (a' := ?_) #[true, true, true, true, true, true, true, true, true, true, false, false, false, false, false, false, false, false, false, false, false, false, false, false, false, false, false, false, false, false, false, false, false, false, false, false, false, false, false, false, false, false, false, false, false, false, false, false, false, false] rfl rfl (any_of HT_.out (by kernel_rfl)) (fun _ _ _ h => h) (Or.inl ⟨by rfl, ?_⟩) ?_ ?_
      rotate_left
      ·intro w'
       go_simp
       with_reducible rfl
      rotate_left
      ·simp only [Act.put, sI_, s0_, sS_, i64_w, i32_w]
       rfl)
   | skip
   first
   | (refine pure_ (i := 10) (N := some 64) (v := ?_) (a' := ?_) #[true, true, true, true, true, true, true, true, true, true, true, false, false, false, false, false, false, false, false, false, false, false, false, false, false, false, false, false, false, false, false, false, false, false, false, false, false, false, false, false, false, false, false, false, false, false, false, false, false, false] rfl rfl (any_of HT_.out (by kernel_rfl)) (fun _ _ _ h => h) (Or.inl ⟨by rfl, ?_⟩) ?_ ?_
      rotate_left
      ·intro w'
       go_simp
       with_reducible rfl
      rotate_left
      ·simp only [Act.put, sI_, s0_, sS_, i64_w, i32_w]
       rfl)
   | skip
   first
   | (refine pure_ (i := 11) (N := some 65) (v := ?_) (a' := ?_) #[true, true, true, true, true, true, true, true, true, true, true, true, false, false, false, false, false, false, false, false, false, false, false, false, false, false, false, false, false, false, false, false, false, false, false, false, false, false, false, false, false, false, false, false, false, false, false, false, false, false] rfl rfl (any_of HT_.out (by kernel_rfl)) (fun _ _ _ h => h) (Or.inl ⟨by rfl, ?_⟩) ?_ ?_
      rotate_left
      ·intro w'
       go_simp
       with_reducible rfl
      rotate_left
      ·simp only [Act.put, sI_, s0_, sS_, i64_w, i32_w]
       rfl)
   | (refine pure_ (i := 11) (N := some 65) (v := undef) (a' := ?_) #[true, true, true, true, true, true, true, true, true, true, true, true, false, false, false, false, false, false, false, false, false, false, false, false, false, false, false, false, false, false, false, false, false, false, false, false, false, false, false, false, false, false, false, false, false, false, false, false, false, false] rfl rfl (any_of HT_.out (by kernel_rfl)) (fun _ _ _ h => h) (Or.inr ⟨by rfl, rfl⟩) ?_ ?_
      rotate_left
      ·simp only [Act.put, sI_, s0_, sS_, i64_w, i32_w]
       rfl)
   | skip
   first
   | (refine pure_ (i := 12) (N := some 66) (v := ?_) (a' := ?_) #[true, true, true, true, true, true, true, true, true, true, true, true, true, false, false, false, false, false, false, false, false, false, false, false, false, false, false, false, false, false, false, false, false, false, false, false, false, false, false, false, false, false, false, false, false, false, false, false, false, false] rfl rfl (any_of HT_.out (by kernel_rfl)) (fun _ _ _ h => h) (Or.inl ⟨by rfl, ?_⟩) ?_ ?_
      rotate_left
      ·intro w'
       go_simp
       with_reducible rfl
      rotate_left
      ·simp only [Act.put, sI_, s0_, sS_, i64_w, i32_w]
       rfl)
   | (refine pure_ (i := 12) (N := some 66) (v := undef) (a' := ?_) #[true, true, true, true, true, true, true, true, true, true, true, true, true, false, false, false, false, false, false, false, false, false, false, false, false, false, false, false, false, false, false, false, false, false, false, false, false, false, false, false, false, false, false, false, false, false, false, false, false, false] rfl rfl (any_of HT_.out (by kernel_rfl)) (fun _ _ _ h => h) (Or.inr ⟨by rfl, rfl⟩) ?_ ?_
      rotate_left
      ·simp only [Act.put, sI_, s0_, sS_, i64_w, i32_w]
       rfl)
   | skip
   first
   | (refine pure_ (i := 13) (N := some 67) (v := ?_) (a' := ?_) #[true, true, true, true, true, true, true, true, true, true, true, true, true, true, false, false, false, false, false, false, false, false, false, false, false, false, false, false, false, false, false, false, false, false, false, false, false, false, false, false, false, false, false, false, false, false, false, false, false, false] rfl rfl (any_of HT_.out (by kernel_rfl)) (fun _ _ _ h => h) (Or.inl ⟨by rfl, ?_⟩) ?_ ?_
      rotate_left
      ·intro w'
       go_simp
       with_reducible rfl
      rotate_left
      ·simp only [Act.put, sI_, s0_, sS_, i64_w, i32_w]
       rfl)
   | (refine pure_ (i := 13) (N := some 67) (v := undef) (a' := ?_) #[true, true, true, true, true, true, true, true, true, true, true, true, true, true, false, false, false, false, false, false, false, false, false, false, false, false, false, false, false, false, false, false, false, false, false, false, false, false, false, false, false, false, false, false, false, false, false, false, false, false] rfl rfl (any_of HT_.out (by kernel_rfl)) (fun _ _ _ h => h) (Or.inr ⟨by rfl, rfl⟩) ?_ ?_
      rotate_left
      ·simp only [Act.put, sI_, s0_, sS_, i64_w, i32_w]
       rfl)
   | skip
   first
   | (refine pure_ (i := 14) (N := some 68) (v := ?_) (a' := ?_) #[true, true, true, true, true, true, true, true, true, true, true, true, true, true, true, false, false, false, false, false, false, false, false, false, false, false, false, false, false, false, false, false, false, false, false, false, false, false, false, false, false, false, false, false, false, false, false, false, false, false] rfl rfl (any_of HT_.out (by kernel_rfl)) (fun _ _ _ h => h) (Or.inl ⟨by rfl, ?_⟩) ?_ ?_
      rotate_left
      ·intro w'
       go_simp
       with_reducible rfl
      rotate_left
      ·simp only [Act.put, sI_, s0_, sS_, i64_w, i32_w]
       rfl)
   | skip
   first
   | (refine pure_ (i := 15) (N := some 69) (v := ?_) (a' := ?_) #[true, true, true, true, true, true, true, true, true, true, true, true, true, true, true, true, false, false, false, false, false, false, false, false, false, false, false, false, false, false, false, false, false, false, false, false, false, false, false, false, false, false, false, false, false, false, false, false, false, false] rfl rfl (any_of HT_.out (by kernel_rfl)) (fun _ _ _ h => h) (Or.inl ⟨by rfl, ?_⟩) ?_ ?_
      rotate_left
      ·intro w'
       go_simp
       with_reducible rfl
      rotate_left
      ·simp only [Act.put, sI_, s0_, sS_, i64_w, i32_w]
       rfl)
   | skip
   first
   | (refine pure_ (i := 16) (N := some 70) (v := ?_) (a' := ?_) #[true, true, true, true, true, true, true, true, true, true, true, true, true, true, true, true, true, false, false, false, false, false, false, false, false, false, false, false, false, false, false, false, false, false, false, false, false, false, false, false, false, false, false, false, false, false, false, false, false, false] rfl rfl (any_of HT_.out (by kernel_rfl)) (fun _ _ _ h => h) (Or.inl ⟨by rfl, ?_⟩) ?_ ?_
      rotate_left
      ·intro w'
       go_simp
       with_reducible rfl
      rotate_left
      ·simp only [Act.put, sI_, s0_, sS_, i64_w, i32_w]
       rfl)
   | (refine pure_ (i := 16) (N := some 70) (v := undef) (a' := ?_) #[true, true, true, true, true, true, true, true, true, true, true, true, true, true, true, true, true, false, false, false, false, false, false, false, false, false, false, false, false, false, false, false, false, false, false, false, false, false, false, false, false, false, false, false, false, false, false, false, false, false] rfl rfl (any_of HT_.out (by kernel_rfl)) (fun _ _ _ h => h) (Or.inr ⟨by rfl, rfl⟩) ?_ ?_
      rotate_left
      ·simp only [Act.put, sI_, s0_, sS_, i64_w, i32_w]
       rfl)
   | skip
   first
   | (refine pure_ (i := 19) (N := some 73) (v := ?_) (a' := ?_) #[true, true, true, true, true, true, true, true, true, true, true, true, true, true, true, true, true, false, false, true, false, false, false, false, false, false, false, false, false, false, false, false, false, false, false, false, false, false, false, false, false, false, false, false, false, false, false, false, false, false] rfl rfl (any_of HT_.out (by kernel_rfl)) (fun _ _ _ h => h) (Or.inl ⟨by rfl, ?_⟩) ?_ ?_
      rotate_left
      ·intro w'
       go_simp
       with_reducible rfl
      rotate_left
      ·simp only [Act.put, sI_, s0_, sS_, i64_w, i32_w]
       rfl)
   | (refine pure_ (i := 19) (N := some 73) (v := undef) (a' := ?_) #[true, true, true, true, true, true, true, true, true, true, true, true, true, true, true, true, true, false, false, true, false, false, false, false, false, false, false, false, false, false, false, false, false, false, false, false, false, false, false, false, false, false, false, false, false, false, false, false, false, false] rfl rfl (any_of HT_.out (by kernel_rfl)) (fun _ _ _ h => h) (Or.inr ⟨by rfl, rfl⟩) ?_ ?_
      rotate_left
      ·simp only [Act.put, sI_, s0_, sS_, i64_w, i32_w]
       rfl)
   | skip
   first
   | (refine pure_ (i := 21) (N := some 75) (v := ?_) (a' := ?_) #[true, true, true, true, true, true, true, true, true, true, true, true, true, true, true, true, true, false, false, true, false, true, false, false, false, false, false, false, false, false, false, false, false, false, false, false, false, false, false, false, false, false, false, false, false, false, false, false, false, false] rfl rfl (any_of HT_.out (by kernel_rfl)) (fun _ _ _ h => h) (Or.inl ⟨by rfl, ?_⟩) ?_ ?_
      rotate_left
      ·intro w'
       go_simp
       with_reducible rfl
      rotate_left
      ·simp only [Act.put, sI_, s0_, sS_, i64_w, i32_w]
       rfl)
   | (refine pure_ (i := 21) (N := some 75) (v := undef) (a' := ?_) #[true, true, true, true, true, true, true, true, true, true, true, true, true, true, true, true, true, false, false, true, false, true, false, false, false, false, false, false, false, false, false, false, false, false, false, false, false, false, false, false, false, false, false, false, false, false, false, false, false, false] rfl rfl (any_of HT_.out (by kernel_rfl)) (fun _ _ _ h => h) (Or.inr ⟨by rfl, rfl⟩) ?_ ?_
      rotate_left
      ·simp only [Act.put, sI_, s0_, sS_, i64_w, i32_w]
       rfl)
   | skip
   first
   | (refine take_ (i := 17) (N := some 71) (v := ?_) (a' := ?_) #[true, true, true, true, true, true, true, true, true, true, true, true, true, true, true, true, true, true, false, true, false, true, false, false, false, false, false, false, false, false, false, false, false, false, false, false, false, false, false, false, false, false, false, false, false, false, false, false, false, false] rfl rfl (take_ofW HT_.out HW_.out (by kernel_rfl)) (fun _ _ _ h => h) (Or.inl ⟨by rfl, ?_⟩) hHeld ?_ ?_
      rotate_left
      ·rintro w' ⟨sz1, sz2, sz3, sz4, sz5, sz6, sz7, sz8, sz9, sz10, sz11, sz12, sz13, sz14, sz15, sz16, sz17, sz18, sz19, sz20, sz21, sz22, sz23, sz24, sz25, sz26, sz27, sz28, sz29, sz30, sz31, sz32, sz33, sz34, sz35, sz36, sz37, sz38, sz39, sz40⟩
       go_simp
       with_reducible rfl
      rotate_left
      ·simp only [Act.put, sI_, s0_, sS_, i64_w, i32_w]
       rfl)
   | (refine take_ (i := 17) (N := some 71) (v := ?_) (a' := ?_) #[true, true, true, true, true, true, true, true, true, true, true, true, true, true, true, true, true, true, false, true, false, true, false, false, false, false, false, false, false, false, false, false, false, false, false, false, false, false, false, false, false, false, false, false, false, false, false, false, false, false] rfl rfl (take_ofW HT_.out HW_.out (by kernel_rfl)) (fun _ _ _ h => h) (Or.inl ⟨by rfl, ?_⟩) hHeld ?_ ?_
      rotate_left
      ·rintro w' ⟨sz1, sz2, sz3, sz4, sz5, sz6, sz7, sz8, sz9, sz10, sz11, sz12, sz13, sz14, sz15, sz16, sz17, sz18, sz19, sz20⟩
       go_simp
       with_reducible rfl
      rotate_left
      ·simp only [Act.put, sI_, s0_, sS_, i64_w, i32_w]
       rfl)
   | (refine pure_ (i := 17) (N := some 71) (v := undef) (a' := ?_) #[true, true, true, true, true, true, true, true, true, true, true, true, true, true, true, true, true, true, false, true, false, true, false, false, false, false, false, false, false, false, false, false, false, false, false, false, false, false, false, false, false, false, false, false, false, false, false, false, false, false] rfl rfl (any_of HT_.out (by kernel_rfl)) (fun _ _ _ h => h) (Or.inr ⟨by rfl, rfl⟩) ?_ ?_
      rotate_left
      ·simp only [Act.put, sI_, s0_, sS_, i64_w, i32_w]
       rfl)
   | skip
   first
   | (refine take_ (i := 22) (N := some 76) (v := ?_) (a' := ?_) #[true, true, true, true, true, true, true, true, true, true, true, true, true, true, true, true, true, true, false, true, false, true, true, false, false, false, false, false, false, false, false, false, false, false, false, false, false, false, false, false, false, false, false, false, false, false, false, false, false, false] rfl rfl (take_ofW HT_.out HW_.out (by kernel_rfl)) (fun _ _ _ h => h) (Or.inl ⟨by rfl, ?_⟩) hHeld ?_ ?_
      rotate_left
      ·rintro w' ⟨sz1, sz2, sz3, sz4, sz5, sz6, sz7, sz8, sz9, sz10, sz11, sz12, sz13, sz14, sz15, sz16, sz17, sz18, sz19, sz20, sz21, sz22, sz23, sz24, sz25, sz26, sz27, sz28, sz29, sz30, sz31, sz32, sz33, sz34, sz35, sz36, sz37, sz38, sz39, sz40⟩
       go_simp
       with_reducible rfl
      rotate_left
      ·simp only [Act.put, sI_, s0_, sS_, i64_w, i32_w]
       rfl)
   | (refine take_ (i := 22) (N := some 76) (v := ?_) (a' := ?_) #[true, true, true, true, true, true, true, true, true, true, true, true, true, true, true, true, true, true, false, true, false, true, true, false, false, false, false, false, false, false, false, false, false, false, false, false, false, false, false, false, false, false, false, false, false, false, false, false, false, false] rfl rfl (take_ofW HT_.out HW_.out (by kernel_rfl)) (fun _ _ _ h => h) (Or.inl ⟨by rfl, ?_⟩) hHeld ?_ ?_
      rotate_left
      ·rintro w' ⟨sz1, sz2, sz3, sz4, sz5, sz6, sz7, sz8, sz9, sz10, sz11, sz12, sz13, sz14, sz15, sz16, sz17, sz18, sz19, sz20⟩
       go_simp
       with_reducible rfl
      rotate_left
      ·simp only [Act.put, sI_, s0_, sS_, i64_w, i32_w]
       rfl)
   | (refine pure_ (i := 22) (N := some 76) (v := undef) (a' := ?_) #[true, true, true, true, true, true, true, true, true, true, true, true, true, true, true, true, true, true, false, true, false, true, true, false, false, false, false, false, false, false, false, false, false, false, false, false, false, false, false, false, false, false, false, false, false, false, false, false, false, false] rfl rfl (any_of HT_.out (by kernel_rfl)) (fun _ _ _ h => h) (Or.inr ⟨by rfl, rfl⟩) ?_ ?_
      rotate_left
      ·simp only [Act.put, sI_, s0_, sS_, i64_w, i32_w]
       rfl)
   | skip
   first
   | (refine one_ (i := 18) (N := some 72) #[true, true, true, true, true, true, true, true, true, true, true, true, true, true, true, true, true, true, true, true, false, true, true, false, false, false, false, false, false, false, false, false, false, false, false, false, false, false, false, false, false, false, false, false, false, false, false, false, false, false] rfl rfl (one_of HT_.out (by kernel_rfl)) (by decide) (fun K hK => ?_)
      refine goes_ Try.func24 (by kernel_rfl) rfl #[.slice Aoz1 t650.length coz1] (by rfl) rfl rfl tA_ ?_
      with_reducible refine (hinterlandlaw10_total.calls k _ _ t650 t711 _ ?side1 ?side2 A20.out).mono ?_
      (case side1 => repeat (first | exact (Kd.R_reads' HOz1.out).2.2 | (with_reducible refine Kd.C_alloc ?_ _) | (with_reducible refine Kd.C_drewN ?_ _) | (with_reducible refine Kd.C_drew ?_)))
      (case side2 => exact (Kd.R_reads' HOz1.out).2.1)
      rintro e w' ⟨rfl, ⟨nd, rfl⟩⟩
      refine ⟨_, rfl, ?_⟩
      refine hK.out _ _ ⟨(blk_cell BKz2.out 0).trans rfl, (blk_cell BKz2.out 1).trans rfl, (blk_cell BKz2.out 2).trans rfl, (blk_cell BKz2.out 3).trans rfl, (blk_cell BKz2.out 4).trans rfl, (blk_cell BKz2.out 5).trans rfl, (blk_cell BKz2.out 6).trans rfl, (blk_cell BKz2.out 7).trans rfl, (blk_cell BKz2.out 8).trans rfl, (blk_cell BKz2.out 9).trans rfl, (blk_cell BKz1.out 0).trans rfl, (blk_cell BKz1.out 1).trans rfl, (blk_cell BKz1.out 2).trans rfl, (blk_cell BKz1.out 3).trans rfl, (blk_cell BKz1.out 4).trans rfl, (blk_cell BKz1.out 5).trans rfl, (blk_cell BKz1.out 6).trans rfl, (blk_cell BKz1.out 7).trans rfl, (blk_cell BKz1.out 8).trans rfl, (blk_cell BKz1.out 9).trans rfl, (blk_cell BKz3.out 0).trans rfl, (blk_cell BKz3.out 1).trans rfl, (blk_cell BKz3.out 2).trans rfl, (blk_cell BKz3.out 3).trans rfl, (blk_cell BKz3.out 4).trans rfl, (blk_cell BKz3.out 5).trans rfl, (blk_cell BKz3.out 6).trans rfl, (blk_cell BKz3.out 7).trans rfl, (blk_cell BKz3.out 8).trans rfl, (blk_cell BKz3.out 9).trans rfl, (blk_cell BKz4.out 0).trans rfl, (blk_cell BKz4.out 1).trans rfl, (blk_cell BKz4.out 2).trans rfl, (blk_cell BKz4.out 3).trans rfl, (blk_cell BKz4.out 4).trans rfl, (blk_cell BKz4.out 5).trans rfl, (blk_cell BKz4.out 6).trans rfl, (blk_cell BKz4.out 7).trans rfl, (blk_cell BKz4.out 8).trans rfl, (blk_cell BKz4.out 9).trans rfl⟩ (fun hHeld => ?_)
      clear hK K
      refine norm_ (a' := ?_) ?_ ?_
      rotate_left
      ·show Act.put _ (some 72) _ = _
       simp only [Act.put, sI_, s0_, sS_, i64_w, i32_w]
       rfl)
   | (refine one_ (i := 18) (N := some 72) #[true, true, true, true, true, true, true, true, true, true, true, true, true, true, true, true, true, true, true, true, false, true, true, false, false, false, false, false, false, false, false, false, false, false, false, false, false, false, false, false, false, false, false, false, false, false, false, false, false, false] rfl rfl (one_of HT_.out (by kernel_rfl)) (by decide) (fun K hK => ?_)
      refine goes_ Try.func24 (by kernel_rfl) rfl #[.slice Aoz1 t650.length coz1] (by rfl) rfl rfl tA_ ?_
      with_reducible refine (hinterlandlaw10_total.calls k _ _ t650 t711 _ ?side1 ?side2 A20.out).mono ?_
      (case side1 => repeat (first | exact (Kd.R_reads' HOz1.out).2.2 | (with_reducible refine Kd.C_alloc ?_ _) | (with_reducible refine Kd.C_drewN ?_ _) | (with_reducible refine Kd.C_drew ?_)))
      (case side2 => exact (Kd.R_reads' HOz1.out).2.1)
      rintro e w' ⟨rfl, ⟨nd, rfl⟩⟩
      refine ⟨_, rfl, ?_⟩
      refine hK.out _ _ ⟨(blk_cell BKz2.out 0).trans rfl, (blk_cell BKz2.out 1).trans rfl, (blk_cell BKz2.out 2).trans rfl, (blk_cell BKz2.out 3).trans rfl, (blk_cell BKz2.out 4).trans rfl, (blk_cell BKz2.out 5).trans rfl, (blk_cell BKz2.out 6).trans rfl, (blk_cell BKz2.out 7).trans rfl, (blk_cell BKz2.out 8).trans rfl, (blk_cell BKz2.out 9).trans rfl, (blk_cell BKz1.out 0).trans rfl, (blk_cell BKz1.out 1).trans rfl, (blk_cell BKz1.out 2).trans rfl, (blk_cell BKz1.out 3).trans rfl, (blk_cell BKz1.out 4).trans rfl, (blk_cell BKz1.out 5).trans rfl, (blk_cell BKz1.out 6).trans rfl, (blk_cell BKz1.out 7).trans rfl, (blk_cell BKz1.out 8).trans rfl, (blk_cell BKz1.out 9).trans rfl⟩ (fun hHeld => ?_)
      clear hK K
      refine norm_ (a' := ?_) ?_ ?_
      rotate_left
      ·show Act.put _ (some 72) _ = _
       simp only [Act.put, sI_, s0_, sS_, i64_w, i32_w]
       rfl)
   | (refine pure_ (i := 18) (N := some 72) (v := undef) (a' := ?_) #[true, true, true, true, true, true, true, true, true, true, true, true, true, true, true, true, true, true, true, true, false, true, true, false, false, false, false, false, false, false, false, false, false, false, false, false, false, false, false, false, false, false, false, false, false, false, false, false, false, false] rfl rfl (any_of HT_.out (by kernel_rfl)) (fun _ _ _ h => h) (Or.inr ⟨by rfl, rfl⟩) ?_ ?_
      rotate_left
      ·simp only [Act.put, sI_, s0_, sS_, i64_w, i32_w]
       rfl)
   | skip
   first
   | (refine pure_ (i := 20) (N := some 74) (v := ?_) (a' := ?_) #[true, true, true, true, true, true, true, true, true, true, true, true, true, true, true, true, true, true, true, true, true, true, true, false, false, false, false, false, false, false, false, false, false, false, false, false, false, false, false, false, false, false, false, false, false, false, false, false, false, false] rfl rfl (any_of HT_.out (by kernel_rfl)) (fun _ _ _ h => h) (Or.inl ⟨by rfl, ?_⟩) ?_ ?_
      rotate_left
      ·intro w'
       go_simp
       with_reducible rfl
      rotate_left
      ·simp only [Act.put, sI_, s0_, sS_, i64_w, i32_w]
       rfl)
   | (refine pure_ (i := 20) (N := some 74) (v := undef) (a' := ?_) #[true, true, true, true, true, true, true, true, true, true, true, true, true, true, true, true, true, true, true, true, true, true, true, false, false, false, false, false, false, false, false, false, false, false, false, false, false, false, false, false, false, false, false, false, false, false, false, false, false, false] rfl rfl (any_of HT_.out (by kernel_rfl)) (fun _ _ _ h => h) (Or.inr ⟨by rfl, rfl⟩) ?_ ?_
      rotate_left
      ·simp only [Act.put, sI_, s0_, sS_, i64_w, i32_w]
       rfl)
   | skip
   first
   | (refine one_ (i := 23) (N := some 77) #[true, true, true, true, true, true, true, true, true, true, true, true, true, true, true, true, true, true, true, true, true, true, true, true, false, false, false, false, false, false, false, false, false, false, false, false, false, false, false, false, false, false, false, false, false, false, false, false, false, false] rfl rfl (one_of HT_.out (by kernel_rfl)) (by decide) (fun K hK => ?_)
      refine goes_ Try.func24 (by kernel_rfl) rfl #[.slice A1_3 l1_3.length c1_3] (by rfl) rfl rfl tA_ ?_
      with_reducible refine (hinterlandlaw10_total.calls k _ _ l1_3 t712 _ ?side1 ?side2 A21.out).mono ?_
      (case side1 => repeat (first | exact (Kd.C_below HR1_3.out (dL4_ HB GEz1 GEz2 GEz3 GEz4)) | (with_reducible refine Kd.C_alloc ?_ _) | (with_reducible refine Kd.C_drewN ?_ _) | (with_reducible refine Kd.C_drew ?_)))
      (case side2 => exact HC1_3.out)
      rintro e w' ⟨rfl, ⟨nd, rfl⟩⟩
      refine ⟨_, rfl, ?_⟩
      refine hK.out _ _ ⟨(blk_cell BKz2.out 0).trans rfl, (blk_cell BKz2.out 1).trans rfl, (blk_cell BKz2.out 2).trans rfl, (blk_cell BKz2.out 3).trans rfl, (blk_cell BKz2.out 4).trans rfl, (blk_cell BKz2.out 5).trans rfl, (blk_cell BKz2.out 6).trans rfl, (blk_cell BKz2.out 7).trans rfl, (blk_cell BKz2.out 8).trans rfl, (blk_cell BKz2.out 9).trans rfl, (blk_cell BKz1.out 0).trans rfl, (blk_cell BKz1.out 1).trans rfl, (blk_cell BKz1.out 2).trans rfl, (blk_cell BKz1.out 3).trans rfl, (blk_cell BKz1.out 4).trans rfl, (blk_cell BKz1.out 5).trans rfl, (blk_cell BKz1.out 6).trans rfl, (blk_cell BKz1.out 7).trans rfl, (blk_cell BKz1.out 8).trans rfl, (blk_cell BKz1.out 9).trans rfl, (blk_cell BKz3.out 0).trans rfl, (blk_cell BKz3.out 1).trans rfl, (blk_cell BKz3.out 2).trans rfl, (blk_cell BKz3.out 3).trans rfl, (blk_cell BKz3.out 4).trans rfl, (blk_cell BKz3.out 5).trans rfl, (blk_cell BKz3.out 6).trans rfl, (blk_cell BKz3.out 7).trans rfl, (blk_cell BKz3.out 8).trans rfl, (blk_cell BKz3.out 9).trans rfl, (blk_cell BKz4.out 0).trans rfl, (blk_cell BKz4.out 1).trans rfl, (blk_cell BKz4.out 2).trans rfl, (blk_cell BKz4.out 3).trans rfl, (blk_cell BKz4.out 4).trans rfl, (blk_cell BKz4.out 5).trans rfl, (blk_cell BKz4.out 6).trans rfl, (blk_cell BKz4.out 7).trans rfl, (blk_cell BKz4.out 8).trans rfl, (blk_cell BKz4.out 9).trans rfl⟩ (fun hHeld => ?_)
      clear hK K
      refine norm_ (a' := ?_) ?_ ?_
      rotate_left
      ·show Act.put _ (some 77) _ = _
       simp only [Act.put, sI_, s0_, sS_, i64_w, i32_w]
       rfl)
   | (refine one_ (i := 23) (N := some 77) #[true, true, true, true, true, true, true, true, true, true, true, true, true, true, true, true, true, true, true, true, true, true, true, true, false, false, false, false, false, false, false, false, false, false, false, false, false, false, false, false, false, false, false, false, false, false, false, false, false, false] rfl rfl (one_of HT_.out (by kernel_rfl)) (by decide) (fun K hK => ?_)
      refine goes_ Try.func24 (by kernel_rfl) rfl #[.slice A1_3 l1_3.length c1_3] (by rfl) rfl rfl tA_ ?_
      with_reducible refine (hinterlandlaw10_total.calls k _ _ l1_3 t712 _ ?side1 ?side2 A21.out).mono ?_
      (case side1 => repeat (first | exact (Kd.C_below HR1_3.out (dL4_ HB GEz1 GEz2 GEz3 GEz4)) | (with_reducible refine Kd.C_alloc ?_ _) | (with_reducible refine Kd.C_drewN ?_ _) | (with_reducible refine Kd.C_drew ?_)))
      (case side2 => exact HC1_3.out)
      rintro e w' ⟨rfl, ⟨nd, rfl⟩⟩
      refine ⟨_, rfl, ?_⟩
      refine hK.out _ _ ⟨(blk_cell BKz2.out 0).trans rfl, (blk_cell BKz2.out 1).trans rfl, (blk_cell BKz2.out 2).trans rfl, (blk_cell BKz2.out 3).trans rfl, (blk_cell BKz2.out 4).trans rfl, (blk_cell BKz2.out 5).trans rfl, (blk_cell BKz2.out 6).trans rfl, (blk_cell BKz2.out 7).trans rfl, (blk_cell BKz2.out 8).trans rfl, (blk_cell BKz2.out 9).trans rfl, (blk_cell BKz1.out 0).trans rfl, (blk_cell BKz1.out 1).trans rfl, (blk_cell BKz1.out 2).trans rfl, (blk_cell BKz1.out 3).trans rfl, (blk_cell BKz1.out 4).trans rfl, (blk_cell BKz1.out 5).trans rfl, (blk_cell BKz1.out 6).trans rfl, (blk_cell BKz1.out 7).trans rfl, (blk_cell BKz1.out 8).trans rfl, (blk_cell BKz1.out 9).trans rfl⟩ (fun hHeld => ?_)
      clear hK K
      refine norm_ (a' := ?_) ?_ ?_
      rotate_left
      ·show Act.put _ (some 77) _ = _
       simp only [Act.put, sI_, s0_, sS_, i64_w, i32_w]
       rfl)
   | (refine pure_ (i := 23) (N := some 77) (v := undef) (a' := ?_) #[true, true, true, true, true, true, true, true, true, true, true, true, true, true, true, true, true, true, true, true, true, true, true, true, false, false, false, false, false, false, false, false, false, false, false, false, false, false, false, false, false, false, false, false, false, false, false, false, false, false] rfl rfl (any_of HT_.out (by kernel_rfl)) (fun _ _ _ h => h) (Or.inr ⟨by rfl, rfl⟩) ?_ ?_
      rotate_left
      ·simp only [Act.put, sI_, s0_, sS_, i64_w, i32_w]
       rfl)
   | skip
   first
   | (refine pure_ (i := 24) (N := some 78) (v := ?_) (a' := ?_) #[true, true, true, true, true, true, true, true, true, true, true, true, true, true, true, true, true, true, true, true, true, true, true, true, true, false, false, false, false, false, false, false, false, false, false, false, false, false, false, false, false, false, false, false, false, false, false, false, false, false] rfl rfl (any_of HT_.out (by kernel_rfl)) (fun _ _ _ h => h) (Or.inl ⟨by rfl, ?_⟩) ?_ ?_
      rotate_left
      ·intro w'
       go_simp
       with_reducible rfl
      rotate_left
      ·simp only [Act.put, sI_, s0_, sS_, i64_w, i32_w]
       rfl)
   | (refine pure_ (i := 24) (N := some 78) (v := undef) (a' := ?_) #[true, true, true, true, true, true, true, true, true, true, true, true, true, true, true, true, true, true, true, true, true, true, true, true, true, false, false, false, false, false, false, false, false, false, false, false, false, false, false, false, false, false, false, false, false, false, false, false, false, false] rfl rfl (any_of HT_.out (by kernel_rfl)) (fun _ _ _ h => h) (Or.inr ⟨by rfl, rfl⟩) ?_ ?_
      rotate_left
      ·simp only [Act.put, sI_, s0_, sS_, i64_w, i32_w]
       rfl)
   | skip
   first
   | (refine pure_ (i := 25) (N := some 79) (v := ?_) (a' := ?_) #[true, true, true, true, true, true, true, true, true, true, true, true, true, true, true, true, true, true, true, true, true, true, true, true, true, true, false, false, false, false, false, false, false, false, false, false, false, false, false, false, false, false, false, false, false, false, false, false, false, false] rfl rfl (any_of HT_.out (by kernel_rfl)) (fun _ _ _ h => h) (Or.inl ⟨by rfl, ?_⟩) ?_ ?_
      rotate_left
      ·intro w'
       go_simp
       with_reducible rfl
      rotate_left
      ·simp only [Act.put, sI_, s0_, sS_, i64_w, i32_w]
       rfl)
   | skip
   first
   | (refine pure_ (i := 26) (N := some 80) (v := ?_) (a' := ?_) #[true, true, true, true, true, true, true, true, true, true, true, true, true, true, true, true, true, true, true, true, true, true, true, true, true, true, true, false, false, false, false, false, false, false, false, false, false, false, false, false, false, false, false, false, false, false, false, false, false, false] rfl rfl (any_of HT_.out (by kernel_rfl)) (fun _ _ _ h => h) (Or.inl ⟨by rfl, ?_⟩) ?_ ?_
      rotate_left
      ·intro w'
       go_simp
       with_reducible rfl
      rotate_left
      ·simp only [Act.put, sI_, s0_, sS_, i64_w, i32_w]
       rfl)
   | skip
   first
   | (refine pure_ (i := 27) (N := some 81) (v := ?_) (a' := ?_) #[true, true, true, true, true, true, true, true, true, true, true, true, true, true, true, true, true, true, true, true, true, true, true, true, true, true, true, true, false, false, false, false, false, false, false, false, false, false, false, false, false, false, false, false, false, false, false, false, false, false] rfl rfl (any_of HT_.out (by kernel_rfl)) (fun _ _ _ h => h) (Or.inl ⟨by rfl, ?_⟩) ?_ ?_
      rotate_left
      ·intro w'
       go_simp
       with_reducible rfl
      rotate_left
      ·simp only [Act.put, sI_, s0_, sS_, i64_w, i32_w]
       rfl)
   | (refine pure_ (i := 27) (N := some 81) (v := undef) (a' := ?_) #[true, true, true, true, true, true, true, true, true, true, true, true, true, true, true, true, true, true, true, true, true, true, true, true, true, true, true, true, false, false, false, false, false, false, false, false, false, false, false, false, false, false, false, false, false, false, false, false, false, false] rfl rfl (any_of HT_.out (by kernel_rfl)) (fun _ _ _ h => h) (Or.inr ⟨by rfl, rfl⟩) ?_ ?_
      rotate_left
      ·simp only [Act.put, sI_, s0_, sS_, i64_w, i32_w]
       rfl)
   | skip
   first
   | (refine pure_ (i := 28) (N := some 82) (v := ?_) (a' := ?_) #[true, true, true, true, true, true, true, true, true, true, true, true, true, true, true, true, true, true, true, true, true, true, true, true, true, true, true, true, true, false, false, false, false, false, false, false, false, false, false, false, false, false, false, false, false, false, false, false, false, false] rfl rfl (any_of HT_.out (by kernel_rfl)) (fun _ _ _ h => h) (Or.inl ⟨by rfl, ?_⟩) ?_ ?_
      rotate_left
      ·intro w'
       go_simp
       with_reducible rfl
      rotate_left
      ·simp only [Act.put, sI_, s0_, sS_, i64_w, i32_w]
       rfl)
   | (refine pure_ (i := 28) (N := some 82) (v := undef) (a' := ?_) #[true, true, true, true, true, true, true, true, true, true, true, true, true, true, true, true, true, true, true, true, true, true, true, true, true, true, true, true, true, false, false, false, false, false, false, false, false, false, false, false, false, false, false, false, false, false, false, false, false, false] rfl rfl (any_of HT_.out (by kernel_rfl)) (fun _ _ _ h => h) (Or.inr ⟨by rfl, rfl⟩) ?_ ?_
      rotate_left
      ·simp only [Act.put, sI_, s0_, sS_, i64_w, i32_w]
       rfl)
   | skip
   first
   | (refine pure_ (i := 29) (N := some 83) (v := ?_) (a' := ?_) #[true, true, true, true, true, true, true, true, true, true, true, true, true, true, true, true, true, true, true, true, true, true, true, true, true, true, true, true, true, true, false, false, false, false, false, false, false, false, false, false, false, false, false, false, false, false, false, false, false, false] rfl rfl (any_of HT_.out (by kernel_rfl)) (fun _ _ _ h => h) (Or.inl ⟨by rfl, ?_⟩) ?_ ?_
      rotate_left
      ·intro w'
       go_simp
       with_reducible rfl
      rotate_left
      ·simp only [Act.put, sI_, s0_, sS_, i64_w, i32_w]
       rfl)
   | (refine pure_ (i := 29) (N := some 83) (v := undef) (a' := ?_) #[true, true, true, true, true, true, true, true, true, true, true, true, true, true, true, true, true, true, true, true, true, true, true, true, true, true, true, true, true, true, false, false, false, false, false, false, false, false, false, false, false, false, false, false, false, false, false, false, false, false] rfl rfl (any_of HT_.out (by kernel_rfl)) (fun _ _ _ h => h) (Or.inr ⟨by rfl, rfl⟩) ?_ ?_
      rotate_left
      ·simp only [Act.put, sI_, s0_, sS_, i64_w, i32_w]
       rfl)
   | skip
   first
   | (refine pure_ (i := 30) (N := some 84) (v := ?_) (a' := ?_) #[true, true, true, true, true, true, true, true, true, true, true, true, true, true, true, true, true, true, true, true, true, true, true, true, true, true, true, true, true, true, true, false, false, false, false, false, false, false, false, false, false, false, false, false, false, false, false, false, false, false] rfl rfl (any_of HT_.out (by kernel_rfl)) (fun _ _ _ h => h) (Or.inl ⟨by rfl, ?_⟩) ?_ ?_
      rotate_left
      ·intro w'
       go_simp
       with_reducible rfl
      rotate_left
      ·simp only [Act.put, sI_, s0_, sS_, i64_w, i32_w]
       rfl)
   | (refine pure_ (i := 30) (N := some 84) (v := undef) (a' := ?_) #[true, true, true, true, true, true, true, true, true, true, true, true, true, true, true, true, true, true, true, true, true, true, true, true, true, true, true, true, true, true, true, false, false, false, false, false, false, false, false, false, false, false, false, false, false, false, false, false, false, false] rfl rfl (any_of HT_.out (by kernel_rfl)) (fun _ _ _ h => h) (Or.inr ⟨by rfl, rfl⟩) ?_ ?_
      rotate_left
      ·simp only [Act.put, sI_, s0_, sS_, i64_w, i32_w]
       rfl)
   | skip
   first
   | (refine pure_ (i := 31) (N := some 85) (v := ?_) (a' := ?_) #[true, true, true, true, true, true, true, true, true, true, true, true, true, true, true, true, true, true, true, true, true, true, true, true, true, true, true, true, true, true, true, true, false, false, false, false, false, false, false, false, false, false, false, false, false, false, false, false, false, false] rfl rfl (any_of HT_.out (by kernel_rfl)) (fun _ _ _ h => h) (Or.inl ⟨by rfl, ?_⟩) ?_ ?_
      rotate_left
      ·intro w'
       go_simp
       with_reducible rfl
      rotate_left
      ·simp only [Act.put, sI_, s0_, sS_, i64_w, i32_w]
       rfl)
   | (refine pure_ (i := 31) (N := some 85) (v := undef) (a' := ?_) #[true, true, true, true, true, true, true, true, true, true, true, true, true, true, true, true, true, true, true, true, true, true, true, true, true, true, true, true, true, true, true, true, false, false, false, false, false, false, false, false, false, false, false, false, false, false, false, false, false, false] rfl rfl (any_of HT_.out (by kernel_rfl)) (fun _ _ _ h => h) (Or.inr ⟨by rfl, rfl⟩) ?_ ?_
      rotate_left
      ·simp only [Act.put, sI_, s0_, sS_, i64_w, i32_w]
       rfl)
   | skip
   first
   | (refine pure_ (i := 32) (N := some 86) (v := ?_) (a' := ?_) #[true, true, true, true, true, true, true, true, true, true, true, true, true, true, true, true, true, true, true, true, true, true, true, true, true, true, true, true, true, true, true, true, true, false, false, false, false, false, false, false, false, false, false, false, false, false, false, false, false, false] rfl rfl (any_of HT_.out (by kernel_rfl)) (fun _ _ _ h => h) (Or.inl ⟨by rfl, ?_⟩) ?_ ?_
      rotate_left
      ·intro w'
       go_simp
       with_reducible rfl
      rotate_left
      ·simp only [Act.put, sI_, s0_, sS_, i64_w, i32_w]
       rfl)
   | skip
   first
   | (refine pure_ (i := 33) (N := some 87) (v := ?_) (a' := ?_) #[true, true, true, true, true, true, true, true, true, true, true, true, true, true, true, true, true, true, true, true, true, true, true, true, true, true, true, true, true, true, true, true, true, true, false, false, false, false, false, false, false, false, false, false, false, false, false, false, false, false] rfl rfl (any_of HT_.out (by kernel_rfl)) (fun _ _ _ h => h) (Or.inl ⟨by rfl, ?_⟩) ?_ ?_
      rotate_left
      ·intro w'
       go_simp
       with_reducible rfl
      rotate_left
      ·simp only [Act.put, sI_, s0_, sS_, i64_w, i32_w]
       rfl)
   | skip
   first
   | (refine pure_ (i := 34) (N := some 88) (v := ?_) (a' := ?_) #[true, true, true, true, true, true, true, true, true, true, true, true, true, true, true, true, true, true, true, true, true, true, true, true, true, true, true, true, true, true, true, true, true, true, true, false, false, false, false, false, false, false, false, false, false, false, false, false, false, false] rfl rfl (any_of HT_.out (by kernel_rfl)) (fun _ _ _ h => h) (Or.inl ⟨by rfl, ?_⟩) ?_ ?_
      rotate_left
      ·intro w'
       go_simp
       with_reducible rfl
      rotate_left
      ·simp only [Act.put, sI_, s0_, sS_, i64_w, i32_w]
       rfl)
   | (refine pure_ (i := 34) (N := some 88) (v := undef) (a' := ?_) #[true, true, true, true, true, true, true, true, true, true, true, true, true, true, true, true, true, true, true, true, true, true, true, true, true, true, true, true, true, true, true, true, true, true, true, false, false, false, false, false, false, false, false, false, false, false, false, false, false, false] rfl rfl (any_of HT_.out (by kernel_rfl)) (fun _ _ _ h => h) (Or.inr ⟨by rfl, rfl⟩) ?_ ?_
      rotate_left
      ·simp only [Act.put, sI_, s0_, sS_, i64_w, i32_w]
       rfl)
   | skip
   first
   | (refine pure_ (i := 36) (N := some 90) (v := ?_) (a' := ?_) #[true, true, true, true, true, true, true, true, true, true, true, true, true, true, true, true, true, true, true, true, true, true, true, true, true, true, true, true, true, true, true, true, true, true, true, false, true, false, false, false, false, false, false, false, false, false, false, false, false, false] rfl rfl (any_of HT_.out (by kernel_rfl)) (fun _ _ _ h => h) (Or.inl ⟨by rfl, ?_⟩) ?_ ?_
      rotate_left
      ·intro w'
       go_simp
       with_reducible rfl
      rotate_left
      ·simp only [Act.put, sI_, s0_, sS_, i64_w, i32_w]
       rfl)
   | (refine pure_ (i := 36) (N := some 90) (v := undef) (a' := ?_) #[true, true, true, true, true, true, true, true, true, true, true, true, true, true, true, true, true, true, true, true, true, true, true, true, true, true, true, true, true, true, true, true, true, true, true, false, true, false, false, false, false, false, false, false, false, false, false, false, false, false] rfl rfl (any_of HT_.out (by kernel_rfl)) (fun _ _ _ h => h) (Or.inr ⟨by rfl, rfl⟩) ?_ ?_
      rotate_left
      ·simp only [Act.put, sI_, s0_, sS_, i64_w, i32_w]
       rfl)
   | skip
   first
   | (refine take_ (i := 35) (N := some 89) (v := ?_) (a' := ?_) #[true, true, true, true, true, true, true, true, true, true, true, true, true, true, true, true, true, true, true, true, true, true, true, true, true, true, true, true, true, true, true, true, true, true, true, true, true, false, false, false, false, false, false, false, false, false, false, false, false, false] rfl rfl (take_ofW HT_.out HW_.out (by kernel_rfl)) (fun _ _ _ h => h) (Or.inl ⟨by rfl, ?_⟩) hHeld ?_ ?_
      rotate_left
      ·rintro w' ⟨sz1, sz2, sz3, sz4, sz5, sz6, sz7, sz8, sz9, sz10, sz11, sz12, sz13, sz14, sz15, sz16, sz17, sz18, sz19, sz20, sz21, sz22, sz23, sz24, sz25, sz26, sz27, sz28, sz29, sz30, sz31, sz32, sz33, sz34, sz35, sz36, sz37, sz38, sz39, sz40⟩
       go_simp
       with_reducible rfl
      rotate_left
      ·simp only [Act.put, sI_, s0_, sS_, i64_w, i32_w]
       rfl)
   | (refine pure_ (i := 35) (N := some 89) (v := undef) (a' := ?_) #[true, true, true, true, true, true, true, true, true, true, true, true, true, true, true, true, true, true, true, true, true, true, true, true, true, true, true, true, true, true, true, true, true, true, true, true, true, false, false, false, false, false, false, false, false, false, false, false, false, false] rfl rfl (any_of HT_.out (by kernel_rfl)) (fun _ _ _ h => h) (Or.inr ⟨by rfl, rfl⟩) ?_ ?_
      rotate_left
      ·simp only [Act.put, sI_, s0_, sS_, i64_w, i32_w]
       rfl)
   | skip
   first
   | (refine take_ (i := 37) (N := some 91) (v := ?_) (a' := ?_) #[true, true, true, true, true, true, true, true, true, true, true, true, true, true, true, true, true, true, true, true, true, true, true, true, true, true, true, true, true, true, true, true, true, true, true, true, true, true, false, false, false, false, false, false, false, false, false, false, false, false] rfl rfl (take_ofW HT_.out HW_.out (by kernel_rfl)) (fun _ _ _ h => h) (Or.inl ⟨by rfl, ?_⟩) hHeld ?_ ?_
      rotate_left
      ·rintro w' ⟨sz1, sz2, sz3, sz4, sz5, sz6, sz7, sz8, sz9, sz10, sz11, sz12, sz13, sz14, sz15, sz16, sz17, sz18, sz19, sz20, sz21, sz22, sz23, sz24, sz25, sz26, sz27, sz28, sz29, sz30, sz31, sz32, sz33, sz34, sz35, sz36, sz37, sz38, sz39, sz40⟩
       go_simp
       with_reducible rfl
      rotate_left
      ·simp only [Act.put, sI_, s0_, sS_, i64_w, i32_w]
       rfl)
   | (refine pure_ (i := 37) (N := some 91) (v := undef) (a' := ?_) #[true, true, true, true, true, true, true, true, true, true, true, true, true, true, true, true, true, true, true, true, true, true, true, true, true, true, true, true, true, true, true, true, true, true, true, true, true, true, false, false, false, false, false, false, false, false, false, false, false, false] rfl rfl (any_of HT_.out (by kernel_rfl)) (fun _ _ _ h => h) (Or.inr ⟨by rfl, rfl⟩) ?_ ?_
      rotate_left
      ·simp only [Act.put, sI_, s0_, sS_, i64_w, i32_w]
       rfl)
   | skip
   first
   | (refine one_ (i := 38) (N := some 92) #[true, true, true, true, true, true, true, true, true, true, true, true, true, true, true, true, true, true, true, true, true, true, true, true, true, true, true, true, true, true, true, true, true, true, true, true, true, true, true, false, false, false, false, false, false, false, false, false, false, false] rfl rfl (one_of HT_.out (by kernel_rfl)) (by decide) (fun K hK => ?_)
      refine goes_ Try.func25 (by kernel_rfl) rfl #[.slice Aoz5 t672.length coz5, .slice Aoz9 t693.length coz9] (by rfl) rfl rfl tA_ ?_
      with_reducible refine (hinterlandsame_List_int.calls k _ _ t672 _ _ t693 _ _ ?side1 ?side2 ?side3 ?side4 A24.out).mono ?_
      (case side1 => repeat (first | exact (Kd.R_reads' HOz5.out).2.2 | (with_reducible refine Kd.C_alloc ?_ _) | (with_reducible refine Kd.C_drewN ?_ _) | (with_reducible refine Kd.C_drew ?_)))
      (case side2 => exact (Kd.R_reads' HOz5.out).2.1)
      (case side3 => repeat (first | exact (Kd.R_reads' HOz9.out).2.2 | (with_reducible refine Kd.C_alloc ?_ _) | (with_reducible refine Kd.C_drewN ?_ _) | (with_reducible refine Kd.C_drew ?_)))
      (case side4 => exact (Kd.R_reads' HOz9.out).2.1)
      rintro e w' ⟨rfl, ⟨nd, rfl⟩⟩
      refine ⟨_, rfl, ?_⟩
      refine hK.out _ _ ⟨(blk_cell BKz2.out 0).trans rfl, (blk_cell BKz2.out 1).trans rfl, (blk_cell BKz2.out 2).trans rfl, (blk_cell BKz2.out 3).trans rfl, (blk_cell BKz2.out 4).trans rfl, (blk_cell BKz2.out 5).trans rfl, (blk_cell BKz2.out 6).trans rfl, (blk_cell BKz2.out 7).trans rfl, (blk_cell BKz2.out 8).trans rfl, (blk_cell BKz2.out 9).trans rfl, (blk_cell BKz1.out 0).trans rfl, (blk_cell BKz1.out 1).trans rfl, (blk_cell BKz1.out 2).trans rfl, (blk_cell BKz1.out 3).trans rfl, (blk_cell BKz1.out 4).trans rfl, (blk_cell BKz1.out 5).trans rfl, (blk_cell BKz1.out 6).trans rfl, (blk_cell BKz1.out 7).trans rfl, (blk_cell BKz1.out 8).trans rfl, (blk_cell BKz1.out 9).trans rfl, (blk_cell BKz3.out 0).trans rfl, (blk_cell BKz3.out 1).trans rfl, (blk_cell BKz3.out 2).trans rfl, (blk_cell BKz3.out 3).trans rfl, (blk_cell BKz3.out 4).trans rfl, (blk_cell BKz3.out 5).trans rfl, (blk_cell BKz3.out 6).trans rfl, (blk_cell BKz3.out 7).trans rfl, (blk_cell BKz3.out 8).trans rfl, (blk_cell BKz3.out 9).trans rfl, (blk_cell BKz4.out 0).trans rfl, (blk_cell BKz4.out 1).trans rfl, (blk_cell BKz4.out 2).trans rfl, (blk_cell BKz4.out 3).trans rfl, (blk_cell BKz4.out 4).trans rfl, (blk_cell BKz4.out 5).trans rfl, (blk_cell BKz4.out 6).trans rfl, (blk_cell BKz4.out 7).trans rfl, (blk_cell BKz4.out 8).trans rfl, (blk_cell BKz4.out 9).trans rfl⟩ (fun hHeld => ?_)
      clear hK K
      refine norm_ (a' := ?_) ?_ ?_
      rotate_left
      ·show Act.put _ (some 92) _ = _
       simp only [Act.put, sI_, s0_, sS_, i64_w, i32_w]
       rfl)
   | (refine pure_ (i := 38) (N := some 92) (v := undef) (a' := ?_) #[true, true, true, true, true, true, true, true, true, true, true, true, true, true, true, true, true, true, true, true, true, true, true, true, true, true, true, true, true, true, true, true, true, true, true, true, true, true, true, false, false, false, false, false, false, false, false, false, false, false] rfl rfl (any_of HT_.out (by kernel_rfl)) (fun _ _ _ h => h) (Or.inr ⟨by rfl, rfl⟩) ?_ ?_
      rotate_left
      ·simp only [Act.put, sI_, s0_, sS_, i64_w, i32_w]
       rfl)
   | skip
   first
   | (refine pure_ (i := 39) (N := some 93) (v := ?_) (a' := ?_) #[true, true, true, true, true, true, true, true, true, true, true, true, true, true, true, true, true, true, true, true, true, true, true, true, true, true, true, true, true, true, true, true, true, true, true, true, true, true, true, true, false, false, false, false, false, false, false, false, false, false] rfl rfl (any_of HT_.out (by kernel_rfl)) (fun _ _ _ h => h) (Or.inl ⟨by rfl, ?_⟩) ?_ ?_
      rotate_left
      ·intro w'
       go_simp
       with_reducible rfl
      rotate_left
      ·simp only [Act.put, sI_, s0_, sS_, i64_w, i32_w]
       rfl)
   | skip
   first
   | (refine pure_ (i := 40) (N := some 94) (v := ?_) (a' := ?_) #[true, true, true, true, true, true, true, true, true, true, true, true, true, true, true, true, true, true, true, true, true, true, true, true, true, true, true, true, true, true, true, true, true, true, true, true, true, true, true, true, true, false, false, false, false, false, false, false, false, false] rfl rfl (any_of HT_.out (by kernel_rfl)) (fun _ _ _ h => h) (Or.inl ⟨by rfl, ?_⟩) ?_ ?_
      rotate_left
      ·intro w'
       go_simp
       with_reducible rfl
      rotate_left
      ·simp only [Act.put, sI_, s0_, sS_, i64_w, i32_w]
       rfl)
   | skip
   first
   | (refine pure_ (i := 41) (N := some 95) (v := ?_) (a' := ?_) #[true, true, true, true, true, true, true, true, true, true, true, true, true, true, true, true, true, true, true, true, true, true, true, true, true, true, true, true, true, true, true, true, true, true, true, true, true, true, true, true, true, true, false, false, false, false, false, false, false, false] rfl rfl (any_of HT_.out (by kernel_rfl)) (fun _ _ _ h => h) (Or.inl ⟨by rfl, ?_⟩) ?_ ?_
      rotate_left
      ·intro w'
       go_simp
       with_reducible rfl
      rotate_left
      ·simp only [Act.put, sI_, s0_, sS_, i64_w, i32_w]
       rfl)
   | (refine pure_ (i := 41) (N := some 95) (v := undef) (a' := ?_) #[true, true, true, true, true, true, true, true, true, true, true, true, true, true, true, true, true, true, true, true, true, true, true, true, true, true, true, true, true, true, true, true, true, true, true, true, true, true, true, true, true, true, false, false, false, false, false, false, false, false] rfl rfl (any_of HT_.out (by kernel_rfl)) (fun _ _ _ h => h) (Or.inr ⟨by rfl, rfl⟩) ?_ ?_
      rotate_left
      ·simp only [Act.put, sI_, s0_, sS_, i64_w, i32_w]
       rfl)
   | skip
   first
   | (refine take_ (i := 42) (N := some 96) (v := ?_) (a' := ?_) #[true, true, true, true, true, true, true, true, true, true, true, true, true, true, true, true, true, true, true, true, true, true, true, true, true, true, true, true, true, true, true, true, true, true, true, true, true, true, true, true, true, true, true, false, false, false, false, false, false, false] rfl rfl (take_ofW HT_.out HW_.out (by kernel_rfl)) (fun _ _ _ h => h) (Or.inl ⟨by rfl, ?_⟩) hHeld ?_ ?_
      rotate_left
      ·rintro w' ⟨sz1, sz2, sz3, sz4, sz5, sz6, sz7, sz8, sz9, sz10, sz11, sz12, sz13, sz14, sz15, sz16, sz17, sz18, sz19, sz20, sz21, sz22, sz23, sz24, sz25, sz26, sz27, sz28, sz29, sz30, sz31, sz32, sz33, sz34, sz35, sz36, sz37, sz38, sz39, sz40⟩
       go_simp
       with_reducible rfl
      rotate_left
      ·simp only [Act.put, sI_, s0_, sS_, i64_w, i32_w]
       rfl)
   | (refine pure_ (i := 42) (N := some 96) (v := undef) (a' := ?_) #[true, true, true, true, true, true, true, true, true, true, true, true, true, true, true, true, true, true, true, true, true, true, true, true, true, true, true, true, true, true, true, true, true, true, true, true, true, true, true, true, true, true, true, false, false, false, false, false, false, false] rfl rfl (any_of HT_.out (by kernel_rfl)) (fun _ _ _ h => h) (Or.inr ⟨by rfl, rfl⟩) ?_ ?_
      rotate_left
      ·simp only [Act.put, sI_, s0_, sS_, i64_w, i32_w]
       rfl)
   | skip
   first
   | (refine one_ (i := 43) (N := some 97) #[true, true, true, true, true, true, true, true, true, true, true, true, true, true, true, true, true, true, true, true, true, true, true, true, true, true, true, true, true, true, true, true, true, true, true, true, true, true, true, true, true, true, true, true, false, false, false, false, false, false] rfl rfl (one_of HT_.out (by kernel_rfl)) (by decide) (fun K hK => ?_)
      refine goes_ Try.func15 (by kernel_rfl) rfl #[.slice A0 l0.length c0, .agg #[.int .i64 t647, .int .i64 t648, .int .i64 t649, .slice Aoz1 t650.length coz1, .slice Aoz2 t653.length coz2, .slice Aoz3 t656.length coz3, .slice Aoz4 t659.length coz4, .int .i64 t662, .int .i64 t663, .bool t664]] (by rfl) rfl rfl tA_ ?_
      with_reducible refine (plant_Validate.calls k _ _ l0 t647 t648 t649 _ _ t650 _ _ t653 _ _ t656 _ _ t659 t662 t663 t664 t714 _ ?side1 ?side2 ?side3 ?side4 ?side5 ?side6 ?side7 ?side8 ?side9 ?side10 A26.out).mono ?_
      (case side1 => repeat (first | exact (Kd.C_below HR0.out (dL4_ HB GEz1 GEz2 GEz3 GEz4)) | (with_reducible refine Kd.C_alloc ?_ _) | (with_reducible refine Kd.C_drewN ?_ _) | (with_reducible refine Kd.C_drew ?_)))
      (case side2 => exact HC0.out)
      (case side3 => repeat (first | exact (Kd.R_reads' HOz1.out).2.2 | (with_reducible refine Kd.C_alloc ?_ _) | (with_reducible refine Kd.C_drewN ?_ _) | (with_reducible refine Kd.C_drew ?_)))
      (case side4 => exact (Kd.R_reads' HOz1.out).2.1)
      (case side5 => repeat (first | exact (Kd.R_reads' HOz2.out).2.2 | (with_reducible refine Kd.C_alloc ?_ _) | (with_reducible refine Kd.C_drewN ?_ _) | (with_reducible refine Kd.C_drew ?_)))
      (case side6 => exact (Kd.R_reads' HOz2.out).2.1)
      (case side7 => repeat (first | exact (Kd.R_reads' HOz3.out).2.2 | (with_reducible refine Kd.C_alloc ?_ _) | (with_reducible refine Kd.C_drewN ?_ _) | (with_reducible refine Kd.C_drew ?_)))
      (case side8 => exact (Kd.R_reads' HOz3.out).2.1)
      (case side9 => repeat (first | exact (Kd.R_reads' HOz4.out).2.2 | (with_reducible refine Kd.C_alloc ?_ _) | (with_reducible refine Kd.C_drewN ?_ _) | (with_reducible refine Kd.C_drew ?_)))
      (case side10 => exact (Kd.R_reads' HOz4.out).2.1)
      rintro e wz11 ⟨rfl, hb⟩
      refine ⟨_, rfl, ?_⟩
      have nz1_ := Aside0.mk (Kd.R_below (dR_ HOz1) hb)
      have nz2_ := Aside0.mk (Kd.R_below (dR_ HOz2) hb)
      have nz3_ := Aside0.mk (Kd.R_below (dR_ HOz3) hb)
      have nz4_ := Aside0.mk (Kd.R_below (dR_ HOz4) hb)
      have nz5_ := Aside0.mk (Kd.R_below (dR_ HOz5) hb)
      have nz6_ := Aside0.mk (Kd.R_below (dR_ HOz6) hb)
      have nz7_ := Aside0.mk (Kd.R_below (dR_ HOz7) hb)
      have nz8_ := Aside0.mk (Kd.R_below (dR_ HOz8) hb)
      have nz9_ := Aside0.mk (Kd.R_below (dR_ HOz9) hb)
      have nz10_ := Aside0.mk (Kd.R_below (dR_ HOz10) hb)
      have nz11_ := Aside0.mk (Kd.R_below (dR_ HOz11) hb)
      have nz12_ := Aside0.mk (Kd.R_below (dR_ HOz12) hb)
      have nz13_ := Aside0.mk (blk_below (g := gbz1) (o := .cells #[.int .i64 a1_0, .int .i64 a1_1, .int .i64 a1_2, .slice A1_3 l1_3.length c1_3, .slice A1_4 l1_4.length c1_4, .slice A1_5 l1_5.length c1_5, .slice A1_6 l1_6.length c1_6, .int .i64 a1_7, .int .i64 a1_8, .bool a1_9] 25 (0, 0)) (dB_ BKz1) hb)
      have nz14_ := Aside0.mk (blk_below (g := gbz2) (o := .cells #[.int .i64 t647, .int .i64 t648, .int .i64 t649, .slice Aoz1 t650.length coz1, .slice Aoz2 t653.length coz2, .slice Aoz3 t656.length coz3, .slice Aoz4 t659.length coz4, .int .i64 t662, .int .i64 t663, .bool t664] 25 (0, 0)) (dB_ BKz2) hb)
      have nz15_ := Aside0.mk (blk_below (g := gbz3) (o := .cells #[.int .i64 t669, .int .i64 t670, .int .i64 t671, .slice Aoz5 t672.length coz5, .slice Aoz6 t675.length coz6, .slice Aoz7 t678.length coz7, .slice Aoz8 t681.length coz8, .int .i64 t684, .int .i64 t685, .bool t686] 25 (0, 0)) (dB_ BKz3) hb)
      have nz16_ := Aside0.mk (blk_below (g := gbz4) (o := .cells #[.int .i64 t690, .int .i64 t691, .int .i64 t692, .slice Aoz9 t693.length coz9, .slice Aoz10 t696.length coz10, .slice Aoz11 t699.length coz11, .slice Aoz12 t702.length coz12, .int .i64 t705, .int .i64 t706, .bool t707] 25 (0, 0)) (dB_ BKz4) hb)
      have nz17_ := Aside0.mk (below_step (dL4_ HB GEz1 GEz2 GEz3 GEz4) hb)
      clear HOz1
      clear HOz2
      clear HOz3
      clear HOz4
      clear HOz5
      clear HOz6
      clear HOz7
      clear HOz8
      clear HOz9
      clear HOz10
      clear HOz11
      clear HOz12
      clear BKz1
      clear BKz2
      clear BKz3
      clear BKz4
      clear HB
      have HOz1 := nz1_
      have HOz2 := nz2_
      have HOz3 := nz3_
      have HOz4 := nz4_
      have HOz5 := nz5_
      have HOz6 := nz6_
      have HOz7 := nz7_
      have HOz8 := nz8_
      have HOz9 := nz9_
      have HOz10 := nz10_
      have HOz11 := nz11_
      have HOz12 := nz12_
      have BKz1 := nz13_
      have BKz2 := nz14_
      have BKz3 := nz15_
      have BKz4 := nz16_
      have HB := nz17_
      clear nz1_ nz2_ nz3_ nz4_ nz5_ nz6_ nz7_ nz8_ nz9_ nz10_ nz11_ nz12_ nz13_ nz14_ nz15_ nz16_ nz17_
      (try clear hb)
      (try clear hb2)
      (try clear hk)
      (try clear hi)
      refine hK.out _ _ ⟨(blk_cell BKz2.out 0).trans rfl, (blk_cell BKz2.out 1).trans rfl, (blk_cell BKz2.out 2).trans rfl, (blk_cell BKz2.out 3).trans rfl, (blk_cell BKz2.out 4).trans rfl, (blk_cell BKz2.out 5).trans rfl, (blk_cell BKz2.out 6).trans rfl, (blk_cell BKz2.out 7).trans rfl, (blk_cell BKz2.out 8).trans rfl, (blk_cell BKz2.out 9).trans rfl, (blk_cell BKz1.out 0).trans rfl, (blk_cell BKz1.out 1).trans rfl, (blk_cell BKz1.out 2).trans rfl, (blk_cell BKz1.out 3).trans rfl, (blk_cell BKz1.out 4).trans rfl, (blk_cell BKz1.out 5).trans rfl, (blk_cell BKz1.out 6).trans rfl, (blk_cell BKz1.out 7).trans rfl, (blk_cell BKz1.out 8).trans rfl, (blk_cell BKz1.out 9).trans rfl, (blk_cell BKz3.out 0).trans rfl, (blk_cell BKz3.out 1).trans rfl, (blk_cell BKz3.out 2).trans rfl, (blk_cell BKz3.out 3).trans rfl, (blk_cell BKz3.out 4).trans rfl, (blk_cell BKz3.out 5).trans rfl, (blk_cell BKz3.out 6).trans rfl, (blk_cell BKz3.out 7).trans rfl, (blk_cell BKz3.out 8).trans rfl, (blk_cell BKz3.out 9).trans rfl, (blk_cell BKz4.out 0).trans rfl, (blk_cell BKz4.out 1).trans rfl, (blk_cell BKz4.out 2).trans rfl, (blk_cell BKz4.out 3).trans rfl, (blk_cell BKz4.out 4).trans rfl, (blk_cell BKz4.out 5).trans rfl, (blk_cell BKz4.out 6).trans rfl, (blk_cell BKz4.out 7).trans rfl, (blk_cell BKz4.out 8).trans rfl, (blk_cell BKz4.out 9).trans rfl⟩ (fun hHeld => ?_)
      clear hK K
      refine norm_ (a' := ?_) ?_ ?_
      rotate_left
      ·show Act.put _ (some 97) _ = _
       simp only [Act.put, sI_, s0_, sS_, i64_w, i32_w]
       rfl)
   | (refine pure_ (i := 43) (N := some 97) (v := undef) (a' := ?_) #[true, true, true, true, true, true, true, true, true, true, true, true, true, true, true, true, true, true, true, true, true, true, true, true, true, true, true, true, true, true, true, true, true, true, true, true, true, true, true, true, true, true, true, true, false, false, false, false, false, false] rfl rfl (any_of HT_.out (by kernel_rfl)) (fun _ _ _ h => h) (Or.inr ⟨by rfl, rfl⟩) ?_ ?_
      rotate_left
      ·simp only [Act.put, sI_, s0_, sS_, i64_w, i32_w]
       rfl)
   | skip
   first
   | (refine pure_ (i := 44) (N := some 98) (v := ?_) (a' := ?_) #[true, true, true, true, true, true, true, true, true, true, true, true, true, true, true, true, true, true, true, true, true, true, true, true, true, true, true, true, true, true, true, true, true, true, true, true, true, true, true, true, true, true, true, true, true, false, false, false, false, false] rfl rfl (any_of HT_.out (by kernel_rfl)) (fun _ _ _ h => h) (Or.inl ⟨by rfl, ?_⟩) ?_ ?_
      rotate_left
      ·intro w'
       go_simp
       with_reducible rfl
      rotate_left
      ·simp only [Act.put, sI_, s0_, sS_, i64_w, i32_w]
       rfl)
   | (refine pure_ (i := 44) (N := some 98) (v := undef) (a' := ?_) #[true, true, true, true, true, true, true, true, true, true, true, true, true, true, true, true, true, true, true, true, true, true, true, true, true, true, true, true, true, true, true, true, true, true, true, true, true, true, true, true, true, true, true, true, true, false, false, false, false, false] rfl rfl (any_of HT_.out (by kernel_rfl)) (fun _ _ _ h => h) (Or.inr ⟨by rfl, rfl⟩) ?_ ?_
      rotate_left
      ·simp only [Act.put, sI_, s0_, sS_, i64_w, i32_w]
       rfl)
   | skip
   first
   | (refine pure_ (i := 45) (N := some 99) (v := ?_) (a' := ?_) #[true, true, true, true, true, true, true, true, true, true, true, true, true, true, true, true, true, true, true, true, true, true, true, true, true, true, true, true, true, true, true, true, true, true, true, true, true, true, true, true, true, true, true, true, true, true, false, false, false, false] rfl rfl (any_of HT_.out (by kernel_rfl)) (fun _ _ _ h => h) (Or.inl ⟨by rfl, ?_⟩) ?_ ?_
      rotate_left
      ·intro w'
       go_simp
       with_reducible rfl
      rotate_left
      ·simp only [Act.put, sI_, s0_, sS_, i64_w, i32_w]
       rfl)
   | skip
   first
   | (refine pure_ (i := 46) (N := some 100) (v := ?_) (a' := ?_) #[true, true, true, true, true, true, true, true, true, true, true, true, true, true, true, true, true, true, true, true, true, true, true, true, true, true, true, true, true, true, true, true, true, true, true, true, true, true, true, true, true, true, true, true, true, true, true, false, false, false] rfl rfl (any_of HT_.out (by kernel_rfl)) (fun _ _ _ h => h) (Or.inl ⟨by rfl, ?_⟩) ?_ ?_
      rotate_left
      ·intro w'
       go_simp
       with_reducible rfl
      rotate_left
      ·simp only [Act.put, sI_, s0_, sS_, i64_w, i32_w]
       rfl)
   | skip
   first
   | (refine one_ (i := 47) (N := some 101) #[true, true, true, true, true, true, true, true, true, true, true, true, true, true, true, true, true, true, true, true, true, true, true, true, true, true, true, true, true, true, true, true, true, true, true, true, true, true, true, true, true, true, true, true, true, true, true, true, false, false] rfl rfl (one_of HT_.out (by kernel_rfl)) (by decide) (fun K hK => ?_)
      refine goes_ Try.func14 (by kernel_rfl) rfl #[] (by rfl) rfl rfl tA_ ?_
      with_reducible refine (hinterlandlaw10_known.calls k  t715 _ A28.out).mono ?_
      rintro e wz12 ⟨rfl, hb⟩
      refine ⟨_, rfl, ?_⟩
      have nz1_ := Aside0.mk (Kd.R_below (dR_ HOz1) hb)
      have nz2_ := Aside0.mk (Kd.R_below (dR_ HOz2) hb)
      have nz3_ := Aside0.mk (Kd.R_below (dR_ HOz3) hb)
      have nz4_ := Aside0.mk (Kd.R_below (dR_ HOz4) hb)
      have nz5_ := Aside0.mk (Kd.R_below (dR_ HOz5) hb)
      have nz6_ := Aside0.mk (Kd.R_below (dR_ HOz6) hb)
      have nz7_ := Aside0.mk (Kd.R_below (dR_ HOz7) hb)
      have nz8_ := Aside0.mk (Kd.R_below (dR_ HOz8) hb)
      have nz9_ := Aside0.mk (Kd.R_below (dR_ HOz9) hb)
      have nz10_ := Aside0.mk (Kd.R_below (dR_ HOz10) hb)
      have nz11_ := Aside0.mk (Kd.R_below (dR_ HOz11) hb)
      have nz12_ := Aside0.mk (Kd.R_below (dR_ HOz12) hb)
      have nz13_ := Aside0.mk (blk_below (g := gbz1) (o := .cells #[.int .i64 a1_0, .int .i64 a1_1, .int .i64 a1_2, .slice A1_3 l1_3.length c1_3, .slice A1_4 l1_4.length c1_4, .slice A1_5 l1_5.length c1_5, .slice A1_6 l1_6.length c1_6, .int .i64 a1_7, .int .i64 a1_8, .bool a1_9] 25 (0, 0)) (dB_ BKz1) hb)
      have nz14_ := Aside0.mk (blk_below (g := gbz2) (o := .cells #[.int .i64 t647, .int .i64 t648, .int .i64 t649, .slice Aoz1 t650.length coz1, .slice Aoz2 t653.length coz2, .slice Aoz3 t656.length coz3, .slice Aoz4 t659.length coz4, .int .i64 t662, .int .i64 t663, .bool t664] 25 (0, 0)) (dB_ BKz2) hb)
      have nz15_ := Aside0.mk (blk_below (g := gbz3) (o := .cells #[.int .i64 t669, .int .i64 t670, .int .i64 t671, .slice Aoz5 t672.length coz5, .slice Aoz6 t675.length coz6, .slice Aoz7 t678.length coz7, .slice Aoz8 t681.length coz8, .int .i64 t684, .int .i64 t685, .bool t686] 25 (0, 0)) (dB_ BKz3) hb)
      have nz16_ := Aside0.mk (blk_below (g := gbz4) (o := .cells #[.int .i64 t690, .int .i64 t691, .int .i64 t692, .slice Aoz9 t693.length coz9, .slice Aoz10 t696.length coz10, .slice Aoz11 t699.length coz11, .slice Aoz12 t702.length coz12, .int .i64 t705, .int .i64 t706, .bool t707] 25 (0, 0)) (dB_ BKz4) hb)
      have nz17_ := Aside0.mk (below_step (dL4_ HB GEz1 GEz2 GEz3 GEz4) hb)
      clear HOz1
      clear HOz2
      clear HOz3
      clear HOz4
      clear HOz5
      clear HOz6
      clear HOz7
      clear HOz8
      clear HOz9
      clear HOz10
      clear HOz11
      clear HOz12
      clear BKz1
      clear BKz2
      clear BKz3
      clear BKz4
      clear HB
      have HOz1 := nz1_
      have HOz2 := nz2_
      have HOz3 := nz3_
      have HOz4 := nz4_
      have HOz5 := nz5_
      have HOz6 := nz6_
      have HOz7 := nz7_
      have HOz8 := nz8_
      have HOz9 := nz9_
      have HOz10 := nz10_
      have HOz11 := nz11_
      have HOz12 := nz12_
      have BKz1 := nz13_
      have BKz2 := nz14_
      have BKz3 := nz15_
      have BKz4 := nz16_
      have HB := nz17_
      clear nz1_ nz2_ nz3_ nz4_ nz5_ nz6_ nz7_ nz8_ nz9_ nz10_ nz11_ nz12_ nz13_ nz14_ nz15_ nz16_ nz17_
      (try clear hb)
      (try clear hb2)
      (try clear hk)
      (try clear hi)
      refine hK.out _ _ ⟨(blk_cell BKz2.out 0).trans rfl, (blk_cell BKz2.out 1).trans rfl, (blk_cell BKz2.out 2).trans rfl, (blk_cell BKz2.out 3).trans rfl, (blk_cell BKz2.out 4).trans rfl, (blk_cell BKz2.out 5).trans rfl, (blk_cell BKz2.out 6).trans rfl, (blk_cell BKz2.out 7).trans rfl, (blk_cell BKz2.out 8).trans rfl, (blk_cell BKz2.out 9).trans rfl, (blk_cell BKz1.out 0).trans rfl, (blk_cell BKz1.out 1).trans rfl, (blk_cell BKz1.out 2).trans rfl, (blk_cell BKz1.out 3).trans rfl, (blk_cell BKz1.out 4).trans rfl, (blk_cell BKz1.out 5).trans rfl, (blk_cell BKz1.out 6).trans rfl, (blk_cell BKz1.out 7).trans rfl, (blk_cell BKz1.out 8).trans rfl, (blk_cell BKz1.out 9).trans rfl, (blk_cell BKz3.out 0).trans rfl, (blk_cell BKz3.out 1).trans rfl, (blk_cell BKz3.out 2).trans rfl, (blk_cell BKz3.out 3).trans rfl, (blk_cell BKz3.out 4).trans rfl, (blk_cell BKz3.out 5).trans rfl, (blk_cell BKz3.out 6).trans rfl, (blk_cell BKz3.out 7).trans rfl, (blk_cell BKz3.out 8).trans rfl, (blk_cell BKz3.out 9).trans rfl, (blk_cell BKz4.out 0).trans rfl, (blk_cell BKz4.out 1).trans rfl, (blk_cell BKz4.out 2).trans rfl, (blk_cell BKz4.out 3).trans rfl, (blk_cell BKz4.out 4).trans rfl, (blk_cell BKz4.out 5).trans rfl, (blk_cell BKz4.out 6).trans rfl, (blk_cell BKz4.out 7).trans rfl, (blk_cell BKz4.out 8).trans rfl, (blk_cell BKz4.out 9).trans rfl⟩ (fun hHeld => ?_)
      clear hK K
      refine norm_ (a' := ?_) ?_ ?_
      rotate_left
      ·show Act.put _ (some 101) _ = _
       simp only [Act.put, sI_, s0_, sS_, i64_w, i32_w]
       rfl)
   | (refine pure_ (i := 47) (N := some 101) (v := undef) (a' := ?_) #[true, true, true, true, true, true, true, true, true, true, true, true, true, true, true, true, true, true, true, true, true, true, true, true, true, true, true, true, true, true, true, true, true, true, true, true, true, true, true, true, true, true, true, true, true, true, true, true, false, false] rfl rfl (any_of HT_.out (by kernel_rfl)) (fun _ _ _ h => h) (Or.inr ⟨by rfl, rfl⟩) ?_ ?_
      rotate_left
      ·simp only [Act.put, sI_, s0_, sS_, i64_w, i32_w]
       rfl)
   | skip
   first
   | (refine pure_ (i := 48) (N := some 102) (v := ?_) (a' := ?_) #[true, true, true, true, true, true, true, true, true, true, true, true, true, true, true, true, true, true, true, true, true, true, true, true, true, true, true, true, true, true, true, true, true, true, true, true, true, true, true, true, true, true, true, true, true, true, true, true, true, false] rfl rfl (any_of HT_.out (by kernel_rfl)) (fun _ _ _ h => h) (Or.inl ⟨by rfl, ?_⟩) ?_ ?_
      rotate_left
      ·intro w'
       go_simp
       with_reducible rfl
      rotate_left
      ·simp only [Act.put, sI_, s0_, sS_, i64_w, i32_w]
       rfl)
   | skip
   first
   | (refine pure_ (i := 49) (N := some 8) (v := ?_) (a' := ?_) #[true, true, true, true, true, true, true, true, true, true, true, true, true, true, true, true, true, true, true, true, true, true, true, true, true, true, true, true, true, true, true, true, true, true, true, true, true, true, true, true, true, true, true, true, true, true, true, true, true, true] rfl rfl (any_of HT_.out (by kernel_rfl)) (fun _ _ _ h => h) (Or.inl ⟨by rfl, ?_⟩) ?_ ?_
      rotate_left
      ·intro w'
       go_simp
       with_reducible rfl
      rotate_left
      ·simp only [Act.put, sI_, s0_, sS_, i64_w, i32_w]
       rfl)
   | skip
   first
   | (refine done_ (done_of HT_.out (by kernel_rfl)) ?_
      try go_wp2)
   | skip
   first
   | (go_ret
      exact ⟨tE_, dL4_ HB GEz1 GEz2 GEz3 GEz4⟩)
   | (go_ret
      exact ⟨tE_, dL2_ HB GEz1 GEz2⟩))

/-- THE ONE PURE STATEMENT of hinterlandlaw10_PlantHaulsAll. -/
def hinterlandlaw10_PlantHaulsAll.Pure : Prop := ∀ (l0 : List (S39)) (a1_0 : Int) (a1_1 : Int) (a1_2 : Int) (l1_3 : List Int) (l1_4 : List Int) (l1_5 : List Int) (l1_6 : List Int) (a1_7 : Int) (a1_8 : Int) (a1_9 : Bool) (a2 : Int) (a3 : Int), (wRow wT39) l0 → (wInt .i64) a1_0 → (wInt .i64) a1_1 → (wInt .i64) a1_2 → (wRow (wInt .i64)) l1_3 → (wRow (wInt .i64)) l1_4 → (wRow (wInt .i64)) l1_5 → (wRow (wInt .i64)) l1_6 → (wInt .i64) a1_7 → (wInt .i64) a1_8 → wBool a1_9 → (wInt .i64) a2 → (wInt .i64) a3 → ∃ k, hinterlandlaw10_PlantHaulsAll.f k l0 a1_0 a1_1 a1_2 l1_3 l1_4 l1_5 l1_6 a1_7 a1_8 a1_9 a2 a3 = some true

end Go.Proofs.Ytnkgelnkoljgdaa.Q
