-- PRINTED by print.py (a twelfth state) out of the translation. Not trusted: Lean checks it.
import Derived.Test.YtnkgelnkoljgdaaPrs
import Derived.Test.YtnkgelnkoljgdaaQ0
import Derived.Test.YtnkgelnkoljgdaaQ8
import Derived.Test.YtnkgelnkoljgdaaQ10
namespace Go.Proofs.Ytnkgelnkoljgdaa.Q
open Go.RowKit Go.Proofs.YtnkgelnkoljgdaaPrs Go.Proofs.YtnkgelnkoljgdaaOwn Go.Proofs.YtnkgelnkoljgdaaW.PrintWords Go.Proofs.YtnkgelnkoljgdaaW.PrintLast Go.Proofs.YtnkgelnkoljgdaaW.PrintMore
open List renaming setIfInBounds_toArray → sI_, set_cons_zero → s0_, set_cons_succ → sS_
attribute [local go_sem] max2_int min2_int max_two min_two max_three min_three max_four min_four   -- for this text's walks alone
set_option linter.unusedVariables false
set_option linter.unusedSimpArgs false

/-! ### plant_Haul: function 22 -/
def plant_Haul.l0 : Nat → Int → Int → List (S41) → Int → Int → Int → Int → Int → List Int → List Int → List Int → List Int → Int → Int → Bool → Option (Int × Int × Int × List Int × List Int × List Int × List Int × Int × Int × Bool × Int × Int)
  | 0, _, _, _, _, _, _, _, _, _, _, _, _, _, _, _ => none
  | k + 1, x2, x3, x32, x33, x34, x558000, x558001, x558002, x558003, x558004, x558005, x558006, x558007, x558008, x558009 => if x34 < x33 then (if 0 ≤ x34 then (if x34 < (x32.length : Int) then (if ((rd_T41 x32 x34).f0) = x2 then (if x34 < (x558003.length : Int) then (if x34 < (x558006.length : Int) then (some (x558000, x558001, x558002, (x558003.set (x34 : Int).toNat (wrap64 ((rd x558003 x34) - (mn x3 (rd x558003 x34))))), x558004, x558005, (x558006.set (x34 : Int).toNat (mn (wrap64 ((rd x558006 x34) + (mn x3 (rd x558003 x34)))) 1000000)), x558007, x558008, x558009, mn x3 (rd x558003 x34), 0)) else (none)) else (none)) else (plant_Haul.l0 k x2 x3 x32 x33 (wrap64 (x34 + 1)) x558000 x558001 x558002 x558003 x558004 x558005 x558006 x558007 x558008 x558009)) else (none)) else (none)) else (some (x558000, x558001, x558002, x558003, x558004, x558005, x558006, x558007, x558008, x558009, 0, 0))
def plant_Haul.f (k : Nat) (l0 : List (S39)) (a1_0 : Int) (a1_1 : Int) (a1_2 : Int) (l1_3 : List Int) (l1_4 : List Int) (l1_5 : List Int) (l1_6 : List Int) (a1_7 : Int) (a1_8 : Int) (a1_9 : Bool) (a2 : Int) (a3 : Int) : Option (Int × Int × Int × List Int × List Int × List Int × List Int × Int × Int × Bool × Int × Int) := (plant_argued.f k l0 a1_0 a1_1 a1_2 l1_3 l1_4 l1_5 l1_6 a1_7 a1_8 a1_9 a2 a3).bind fun t538 => (if t538 = 0 then ((plant_clone.f a1_0 a1_1 a1_2 l1_3 l1_4 l1_5 l1_6 a1_7 a1_8 a1_9).bind fun bt539 => (if 0 ≤ a1_0 then (if a1_0 < (l0.length : Int) then (plant_Haul.l0 k a2 a3 ((rd_T39 l0 a1_0).f2) (((rd_T39 l0 a1_0).f2).length : Int) 0 bt539.1 bt539.2.1 bt539.2.2.1 bt539.2.2.2.1 bt539.2.2.2.2.1 bt539.2.2.2.2.2.1 bt539.2.2.2.2.2.2.1 bt539.2.2.2.2.2.2.2.1 bt539.2.2.2.2.2.2.2.2.1 bt539.2.2.2.2.2.2.2.2.2) else (none)) else (none))) else (some (0, 0, 0, ([] : List Int), ([] : List Int), ([] : List Int), ([] : List Int), 0, 0, false, 0, t538)))
theorem plant_Haul.mono_l : ∀ k, (∀ y0 y1 y2 y3 y4 y5 y6 y7 y8 y9 y10 y11 y12 y13 y14, LeO (plant_Haul.l0 k y0 y1 y2 y3 y4 y5 y6 y7 y8 y9 y10 y11 y12 y13 y14) (plant_Haul.l0 (k + 1) y0 y1 y2 y3 y4 y5 y6 y7 y8 y9 y10 y11 y12 y13 y14))
  | 0 => fun _ _ _ _ _ _ _ _ _ _ _ _ _ _ _ r h => by simp [plant_Haul.l0] at h
  | k + 1 => by
    have ih0 := plant_Haul.mono_l k
    · intro y0 y1 y2 y3 y4 y5 y6 y7 y8 y9 y10 y11 y12 y13 y14
      unfold plant_Haul.l0
      repeat' first
      | (with_reducible first | exact ih0 _ _ _ _ _ _ _ _ _ _ _ _ _ _ _ | exact plant_argued.mono _ _ _ _ _ _ _ _ _ _ _ _ _ _ | exact LeO.refl _ | exact LeO.none _ | refine LeO.ite ?_ ?_ | refine LeO.bind ?_ (fun _ => ?_))
      | exact ih0 _ _ _ _ _ _ _ _ _ _ _ _ _ _ _
      | exact plant_argued.mono _ _ _ _ _ _ _ _ _ _ _ _ _ _
      | exact LeO.none _
      | refine LeO.ite ?_ ?_
      | refine LeO.bind ?_ (fun _ => ?_)
theorem plant_Haul.mono : ∀ a0 a1 a2 a3 a4 a5 a6 a7 a8 a9 a10 a11 a12 k, LeO (plant_Haul.f k a0 a1 a2 a3 a4 a5 a6 a7 a8 a9 a10 a11 a12) (plant_Haul.f (k + 1) a0 a1 a2 a3 a4 a5 a6 a7 a8 a9 a10 a11 a12) := by
  intro a0 a1 a2 a3 a4 a5 a6 a7 a8 a9 a10 a11 a12 k
  have ih0 := plant_Haul.mono_l k
  unfold plant_Haul.f
  repeat' first
      | (with_reducible first | exact ih0 _ _ _ _ _ _ _ _ _ _ _ _ _ _ _ | exact plant_argued.mono _ _ _ _ _ _ _ _ _ _ _ _ _ _ | exact LeO.refl _ | exact LeO.none _ | refine LeO.ite ?_ ?_ | refine LeO.bind ?_ (fun _ => ?_))
      | exact ih0 _ _ _ _ _ _ _ _ _ _ _ _ _ _ _
      | exact plant_argued.mono _ _ _ _ _ _ _ _ _ _ _ _ _ _
      | exact LeO.none _
      | refine LeO.ite ?_ ?_
      | refine LeO.bind ?_ (fun _ => ?_)
def plant_Haul.T11 : Bool × List (List Nat × List Nat) := (true, [([], []), ([0], [0]), ([], []), ([], []), ([3], [3]), ([], []), ([4, 5], [4, 5]), ([6], [6]), ([], []), ([7, 8], [7, 8]), ([9], [9]), ([1, 2, 0, 1, 2, 3, 4, 5, 6, 7, 8, 9, 10], [1, 2]), ([11, 10, 0, 1, 2, 3, 4, 5, 6, 7, 8, 9, 10], [10, 11])])
def plant_Haul.B11 : List Nat := [0, 1, 0, 0, 8, 0, 56, 120, 0, 504, 1016, 2047, 4095]
theorem plant_Haul.tab11 : rtab .any (opsOf Try.f22 11) = plant_Haul.T11 := by kernel_rfl
theorem plant_Haul.bits11 : waitsOk plant_Haul.T11.2 plant_Haul.B11 = true := by kernel_rfl
set_option maxHeartbeats 8000000 in
set_option maxRecDepth 100000 in
theorem plant_Haul.calls (k : Nat) (A0 : Option Addr) (c0 : Nat) (l0 : List (S39)) (a1_0 : Int) (a1_1 : Int) (a1_2 : Int) (A1_3 : Option Addr) (c1_3 : Nat) (l1_3 : List Int) (A1_4 : Option Addr) (c1_4 : Nat) (l1_4 : List Int) (A1_5 : Option Addr) (c1_5 : Nat) (l1_5 : List Int) (A1_6 : Option Addr) (c1_6 : Nat) (l1_6 : List Int) (a1_7 : Int) (a1_8 : Int) (a1_9 : Bool) (a2 : Int) (a3 : Int) (r1 : Int) (r2 : Int) (r3 : Int) (r4 : List Int) (r5 : List Int) (r6 : List Int) (r7 : List Int) (r8 : Int) (r9 : Int) (r10 : Bool) (r11 : Int) (r12 : Int) (w : World) (hr0 : Kd.C k39 w A0 l0.length l0) (hc0 : l0.length ≤ c0) (hr1_3 : Kd.C (Kd.int .i64) w A1_3 l1_3.length l1_3) (hc1_3 : l1_3.length ≤ c1_3) (hr1_4 : Kd.C (Kd.int .i64) w A1_4 l1_4.length l1_4) (hc1_4 : l1_4.length ≤ c1_4) (hr1_5 : Kd.C (Kd.int .i64) w A1_5 l1_5.length l1_5) (hc1_5 : l1_5.length ≤ c1_5) (hr1_6 : Kd.C (Kd.int .i64) w A1_6 l1_6.length l1_6) (hc1_6 : l1_6.length ≤ c1_6) (h : plant_Haul.f k l0 a1_0 a1_1 a1_2 l1_3 l1_4 l1_5 l1_6 a1_7 a1_8 a1_9 a2 a3 = some (r1, r2, r3, r4, r5, r6, r7, r8, r9, r10, r11, r12)) :
    Calls Try.prog 22 #[.slice A0 l0.length c0, .agg #[.int .i64 a1_0, .int .i64 a1_1, .int .i64 a1_2, .slice A1_3 l1_3.length c1_3, .slice A1_4 l1_4.length c1_4, .slice A1_5 l1_5.length c1_5, .slice A1_6 l1_6.length c1_6, .int .i64 a1_7, .int .i64 a1_8, .bool a1_9], .int .i64 a2, .int .i64 a3] w fun e w' => ∃ v3_ v4_ v5_ v6_ : Value, e = .returned (.tuple #[.agg #[.int .i64 r1, .int .i64 r2, .int .i64 r3, v3_, v4_, v5_, v6_, .int .i64 r8, .int .i64 r9, .bool r10], .int .i64 r11, .int .i64 r12]) ∧ Kd.R (Kd.int .i64) 3 w' w.heap.size (fun k_ => some k_ ≠ (v4_ : Value).ownBlock ∧ some k_ ≠ (v5_ : Value).ownBlock ∧ some k_ ≠ (v6_ : Value).ownBlock) v3_ r4 ∧ Kd.R (Kd.int .i64) 3 w' w.heap.size (fun k_ => some k_ ≠ (v3_ : Value).ownBlock ∧ some k_ ≠ (v5_ : Value).ownBlock ∧ some k_ ≠ (v6_ : Value).ownBlock) v4_ r5 ∧ Kd.R (Kd.int .i64) 3 w' w.heap.size (fun k_ => some k_ ≠ (v3_ : Value).ownBlock ∧ some k_ ≠ (v4_ : Value).ownBlock ∧ some k_ ≠ (v6_ : Value).ownBlock) v5_ r6 ∧ Kd.R (Kd.int .i64) 3 w' w.heap.size (fun k_ => some k_ ≠ (v3_ : Value).ownBlock ∧ some k_ ≠ (v4_ : Value).ownBlock ∧ some k_ ≠ (v5_ : Value).ownBlock) v6_ r7 ∧ Below w.heap.size w w' := by
 have hu25 := Try.underlying25
 have hu41 := Try.underlying41
 have HR0 := Aside0.mk hr0
 have HC0 := Aside0.mk hc0
 clear hr0 hc0
 have HR1_3 := Aside0.mk hr1_3
 have HC1_3 := Aside0.mk hc1_3
 clear hr1_3 hc1_3
 have HR1_4 := Aside0.mk hr1_4
 have HC1_4 := Aside0.mk hc1_4
 clear hr1_4 hc1_4
 have HR1_5 := Aside0.mk hr1_5
 have HC1_5 := Aside0.mk hc1_5
 clear hr1_5 hc1_5
 have HR1_6 := Aside0.mk hr1_6
 have HC1_6 := Aside0.mk hc1_6
 clear hr1_6 hc1_6
 have HB := Aside0.mk (Below.refl w.heap.size w)
 have H : ((plant_argued.f k l0 a1_0 a1_1 a1_2 l1_3 l1_4 l1_5 l1_6 a1_7 a1_8 a1_9 a2 a3).bind fun t538 => (if t538 = 0 then ((plant_clone.f a1_0 a1_1 a1_2 l1_3 l1_4 l1_5 l1_6 a1_7 a1_8 a1_9).bind fun bt539 => (if 0 ≤ a1_0 then (if a1_0 < (l0.length : Int) then (plant_Haul.l0 k a2 a3 ((rd_T39 l0 a1_0).f2) (((rd_T39 l0 a1_0).f2).length : Int) 0 bt539.1 bt539.2.1 bt539.2.2.1 bt539.2.2.2.1 bt539.2.2.2.2.1 bt539.2.2.2.2.2.1 bt539.2.2.2.2.2.2.1 bt539.2.2.2.2.2.2.2.1 bt539.2.2.2.2.2.2.2.2.1 bt539.2.2.2.2.2.2.2.2.2) else (none)) else (none))) else (some (0, 0, 0, ([] : List Int), ([] : List Int), ([] : List Int), ([] : List Int), 0, 0, false, 0, t538)))) = some (r1, r2, r3, r4, r5, r6, r7, r8, r9, r10, r11, r12) := h
 clear h
 replace H := Option.bind_eq_some_iff.mp H
 obtain ⟨t538, A50, H⟩ := H
 replace H : (if t538 = 0 then ((plant_clone.f a1_0 a1_1 a1_2 l1_3 l1_4 l1_5 l1_6 a1_7 a1_8 a1_9).bind fun bt539 => (if 0 ≤ a1_0 then (if a1_0 < (l0.length : Int) then (plant_Haul.l0 k a2 a3 ((rd_T39 l0 a1_0).f2) (((rd_T39 l0 a1_0).f2).length : Int) 0 bt539.1 bt539.2.1 bt539.2.2.1 bt539.2.2.2.1 bt539.2.2.2.2.1 bt539.2.2.2.2.2.1 bt539.2.2.2.2.2.2.1 bt539.2.2.2.2.2.2.2.1 bt539.2.2.2.2.2.2.2.2.1 bt539.2.2.2.2.2.2.2.2.2) else (none)) else (none))) else (some (0, 0, 0, ([] : List Int), ([] : List Int), ([] : List Int), ([] : List Int), 0, 0, false, 0, t538))) = some (r1, r2, r3, r4, r5, r6, r7, r8, r9, r10, r11, r12) := H
 have A5 := Aside0.mk A50
 clear A50
 by_cases c6 : t538 = 0
 ·rw [if_pos c6] at H
  have c6b0 : (t538 == 0) = true := beq_iff_eq.mpr c6
  have c6b1 : (t538 != 0) = false := bne_eq_false_iff_eq.mpr c6
  clear c6
  replace H := Option.bind_eq_some_iff.mp H
  obtain ⟨⟨t539, t540, t541, t542, t545, t548, t551, t554, t555, t556⟩, A70, H⟩ := H
  replace H : (if 0 ≤ a1_0 then (if a1_0 < (l0.length : Int) then (plant_Haul.l0 k a2 a3 ((rd_T39 l0 a1_0).f2) (((rd_T39 l0 a1_0).f2).length : Int) 0 t539 t540 t541 t542 t545 t548 t551 t554 t555 t556) else (none)) else (none)) = some (r1, r2, r3, r4, r5, r6, r7, r8, r9, r10, r11, r12) := H
  have A7 := Aside0.mk A70
  clear A70
  by_cases c8 : 0 ≤ a1_0
  ·rw [if_pos c8] at H
   have c8b0 : decide (0 ≤ a1_0) = true := decide_eq_true c8
   clear c8
   by_cases c9 : a1_0 < (l0.length : Int)
   ·rw [if_pos c9] at H
    have c9b0 : decide (a1_0 < (l0.length : Int)) = true := decide_eq_true c9
    clear c9
    have H' := Aside0.mk H
    clear H
    go_enter Try.func22, Try.ntmps22
    go_wp2_with (first | ((with_reducible refine gate_dst (N := 5) rfl ?_); refine box_event ?hg (N := 5) ?hd (cs := #[.int .i64 a1_0, .int .i64 a1_1, .int .i64 a1_2, .slice A1_3 l1_3.length c1_3, .slice A1_4 l1_4.length c1_4, .slice A1_5 l1_5.length c1_5, .slice A1_6 l1_6.length c1_6, .int .i64 a1_7, .int .i64 a1_8, .bool a1_9]) (t := 25) ?hr ?_; (case hd => rfl); (case hg => rfl); (case hr => first | (go_simp; done) | (go_simp; rfl)); intro gb536 hg w10 hbox hb; have BK536 := Aside0.mk (hbox); have GW536 := Aside0.mk ((dS_ hg (dL_ HB) : w.heap.size ≤ gb536)); have GE536 := Aside0.mk ((dS_ hg (dL_ HB) : w.heap.size ≤ gb536)); replace HB := Aside0.mk (below_step (dL_ HB) hb); clear hb hbox hg) | ((with_reducible refine gate_dst (N := 8) rfl ?_); refine box_event ?hg (N := 8) ?hd (cs := #[.int .i64 0, .int .i64 0, .int .i64 0, .slice none 0 0, .slice none 0 0, .slice none 0 0, .slice none 0 0, .int .i64 0, .int .i64 0, .bool false]) (t := 25) ?hr ?_; (case hd => rfl); (case hg => rfl); (case hr => first | (go_simp; done) | (go_simp; rfl)); intro gb537 hg w11 hbox hb; have BK537 := Aside0.mk (hbox); have GW537 := Aside0.mk ((dS_ hg (dL1_ HB GE536) : w.heap.size ≤ gb537)); have GE537 := Aside0.mk ((dS_ hg (dL1_ HB GE536) : w.heap.size ≤ gb537)); replace HB := Aside0.mk (below_step (dL1_ HB GE536) hb); have NB536_537 := Aside0.mk ((by rw [hg]; exact Nat.ne_of_lt (blk_lt (dB_ BK536)) : gb536 ≠ gb537)); have NB537_536 := Aside0.mk ((by rw [hg]; exact Nat.ne_of_gt (blk_lt (dB_ BK536)) : gb537 ≠ gb536)); replace BK536 := Aside0.mk (blk_below (g := gb536) (o := .cells #[.int .i64 a1_0, .int .i64 a1_1, .int .i64 a1_2, .slice A1_3 l1_3.length c1_3, .slice A1_4 l1_4.length c1_4, .slice A1_5 l1_5.length c1_5, .slice A1_6 l1_6.length c1_6, .int .i64 a1_7, .int .i64 a1_8, .bool a1_9] 25 (0, 0)) (dB_ BK536) hb); clear hb hbox hg; have hnb12 := NB536_537.out; have hnc12 := NB537_536.out; obtain ⟨hcz13_0, hcz13_1, hcz13_2, hcz13_3, hcz13_4, hcz13_5, hcz13_6, hcz13_7, hcz13_8, hcz13_9, hfz13_0, hfz13_1, hfz13_2, hfz13_3, hfz13_4, hfz13_5, hfz13_6, hfz13_7, hfz13_8, hfz13_9⟩ := cs10_ BK536.out) | ((with_reducible refine gate_callee (f := 38) rfl ?_); refine goesL_ (some 20) rfl rfl Try.func38 (by kernel_rfl) rfl #[.slice A0 l0.length c0, .agg #[.int .i64 a1_0, .int .i64 a1_1, .int .i64 a1_2, .slice A1_3 l1_3.length c1_3, .slice A1_4 l1_4.length c1_4, .slice A1_5 l1_5.length c1_5, .slice A1_6 l1_6.length c1_6, .int .i64 a1_7, .int .i64 a1_8, .bool a1_9], .int .i64 a2, .int .i64 a3] rfl tA_ ?_; (with_reducible refine (plant_argued.calls k _ _ l0 a1_0 a1_1 a1_2 _ _ l1_3 _ _ l1_4 _ _ l1_5 _ _ l1_6 a1_7 a1_8 a1_9 a2 a3 t538 _ ?side1 ?side2 ?side3 ?side4 ?side5 ?side6 ?side7 ?side8 ?side9 ?side10 A5.out).mono ?_); (case side1 => exact dC_ HR0 HB); (case side2 => exact HC0.out); (case side3 => exact dC_ HR1_3 HB); (case side4 => exact HC1_3.out); (case side5 => exact dC_ HR1_4 HB); (case side6 => exact HC1_4.out); (case side7 => exact dC_ HR1_5 HB); (case side8 => exact HC1_5.out); (case side9 => exact dC_ HR1_6 HB); (case side10 => exact HC1_6.out); rintro e w14 ⟨rfl, hb⟩; refine ⟨_, rfl, ?_⟩; replace BK536 := Aside0.mk (blk_below (g := gb536) (o := .cells #[.int .i64 a1_0, .int .i64 a1_1, .int .i64 a1_2, .slice A1_3 l1_3.length c1_3, .slice A1_4 l1_4.length c1_4, .slice A1_5 l1_5.length c1_5, .slice A1_6 l1_6.length c1_6, .int .i64 a1_7, .int .i64 a1_8, .bool a1_9] 25 (0, 0)) (dB_ BK536) hb); replace BK537 := Aside0.mk (blk_below (g := gb537) (o := .cells #[.int .i64 0, .int .i64 0, .int .i64 0, .slice none 0 0, .slice none 0 0, .slice none 0 0, .slice none 0 0, .int .i64 0, .int .i64 0, .bool false] 25 (0, 0)) (dB_ BK537) hb); replace HB := Aside0.mk (below_step (dL2_ HB GE536 GE537) hb); obtain ⟨hcz15_0, hcz15_1, hcz15_2, hcz15_3, hcz15_4, hcz15_5, hcz15_6, hcz15_7, hcz15_8, hcz15_9, hfz15_0, hfz15_1, hfz15_2, hfz15_3, hfz15_4, hfz15_5, hfz15_6, hfz15_7, hfz15_8, hfz15_9⟩ := cs10_ BK536.out) | ((with_reducible refine gate_callee (f := 39) rfl ?_); refine goesL_ (some 26) rfl rfl Try.func39 (by kernel_rfl) rfl #[.agg #[.int .i64 a1_0, .int .i64 a1_1, .int .i64 a1_2, .slice A1_3 l1_3.length c1_3, .slice A1_4 l1_4.length c1_4, .slice A1_5 l1_5.length c1_5, .slice A1_6 l1_6.length c1_6, .int .i64 a1_7, .int .i64 a1_8, .bool a1_9]] rfl tA_ ?_; (with_reducible refine (plant_clone.calls a1_0 a1_1 a1_2 _ _ l1_3 _ _ l1_4 _ _ l1_5 _ _ l1_6 a1_7 a1_8 a1_9 t539 t540 t541 t542 t545 t548 t551 t554 t555 t556 _ ?side1 ?side2 ?side3 ?side4 ?side5 ?side6 ?side7 ?side8 A7.out).mono ?_); (case side1 => exact dC_ HR1_3 HB); (case side2 => exact HC1_3.out); (case side3 => exact dC_ HR1_4 HB); (case side4 => exact HC1_4.out); (case side5 => exact dC_ HR1_5 HB); (case side6 => exact HC1_5.out); (case side7 => exact dC_ HR1_6 HB); (case side8 => exact HC1_6.out); rintro e w16 ⟨v543, v546, v549, v552, rfl, ho0, ho1, ho2, ho3, hb⟩; refine ⟨_, rfl, ?_⟩; have HO544 := Aside0.mk (Kd.R_lower ho0 (below_size (dL2_ HB GE536 GE537))); have HO547 := Aside0.mk (Kd.R_lower ho1 (below_size (dL2_ HB GE536 GE537))); have HO550 := Aside0.mk (Kd.R_lower ho2 (below_size (dL2_ HB GE536 GE537))); have HO553 := Aside0.mk (Kd.R_lower ho3 (below_size (dL2_ HB GE536 GE537))); replace BK536 := Aside0.mk (blk_below (g := gb536) (o := .cells #[.int .i64 a1_0, .int .i64 a1_1, .int .i64 a1_2, .slice A1_3 l1_3.length c1_3, .slice A1_4 l1_4.length c1_4, .slice A1_5 l1_5.length c1_5, .slice A1_6 l1_6.length c1_6, .int .i64 a1_7, .int .i64 a1_8, .bool a1_9] 25 (0, 0)) (dB_ BK536) hb); replace BK537 := Aside0.mk (blk_below (g := gb537) (o := .cells #[.int .i64 0, .int .i64 0, .int .i64 0, .slice none 0 0, .slice none 0 0, .slice none 0 0, .slice none 0 0, .int .i64 0, .int .i64 0, .bool false] 25 (0, 0)) (dB_ BK537) hb); replace HB := Aside0.mk (below_step (dL2_ HB GE536 GE537) hb)) | ((with_reducible refine gate_dst (N := 12) rfl ?_); refine box_event ?hg (N := 12) ?hd (cs := #[.int .i64 0, .int .i64 0, .int .i64 0, .slice none 0 0, .slice none 0 0, .slice none 0 0, .slice none 0 0, .int .i64 0, .int .i64 0, .bool false]) (t := 25) ?hr ?_; (case hd => rfl); (case hg => rfl); (case hr => first | (go_simp; done) | (go_simp; rfl)); intro gb557 hg w17 hbox hb; replace HO544 := Aside0.mk (Kd.R_below (dR_ HO544) hb); replace HO547 := Aside0.mk (Kd.R_below (dR_ HO547) hb); replace HO550 := Aside0.mk (Kd.R_below (dR_ HO550) hb); replace HO553 := Aside0.mk (Kd.R_below (dR_ HO553) hb); have BK557 := Aside0.mk (hbox); have GW557 := Aside0.mk ((dS_ hg (dL2_ HB GE536 GE537) : w.heap.size ≤ gb557)); have GE557 := Aside0.mk ((dS_ hg (dL2_ HB GE536 GE537) : w.heap.size ≤ gb557)); replace HB := Aside0.mk (below_step (dL2_ HB GE536 GE537) hb); have NB536_557 := Aside0.mk ((by rw [hg]; exact Nat.ne_of_lt (blk_lt (dB_ BK536)) : gb536 ≠ gb557)); have NB557_536 := Aside0.mk ((by rw [hg]; exact Nat.ne_of_gt (blk_lt (dB_ BK536)) : gb557 ≠ gb536)); replace BK536 := Aside0.mk (blk_below (g := gb536) (o := .cells #[.int .i64 a1_0, .int .i64 a1_1, .int .i64 a1_2, .slice A1_3 l1_3.length c1_3, .slice A1_4 l1_4.length c1_4, .slice A1_5 l1_5.length c1_5, .slice A1_6 l1_6.length c1_6, .int .i64 a1_7, .int .i64 a1_8, .bool a1_9] 25 (0, 0)) (dB_ BK536) hb); have NB537_557 := Aside0.mk ((by rw [hg]; exact Nat.ne_of_lt (blk_lt (dB_ BK537)) : gb537 ≠ gb557)); have NB557_537 := Aside0.mk ((by rw [hg]; exact Nat.ne_of_gt (blk_lt (dB_ BK537)) : gb557 ≠ gb537)); replace BK537 := Aside0.mk (blk_below (g := gb537) (o := .cells #[.int .i64 0, .int .i64 0, .int .i64 0, .slice none 0 0, .slice none 0 0, .slice none 0 0, .slice none 0 0, .int .i64 0, .int .i64 0, .bool false] 25 (0, 0)) (dB_ BK537) hb); clear hb hbox hg; have hnb18 := NB557_536.out; have hnc18 := NB536_557.out; have hnb19 := NB557_537.out; have hnc19 := NB537_557.out; obtain ⟨hcz20_0, hcz20_1, hcz20_2, hcz20_3, hcz20_4, hcz20_5, hcz20_6, hcz20_7, hcz20_8, hcz20_9, hfz20_0, hfz20_1, hfz20_2, hfz20_3, hfz20_4, hfz20_5, hfz20_6, hfz20_7, hfz20_8, hfz20_9⟩ := cs10_ BK557.out; obtain ⟨Ao21, co21, eo21⟩ := Kd.R_slice HO544.out; subst eo21; obtain ⟨Ao22, co22, eo22⟩ := Kd.R_slice HO547.out; subst eo22; obtain ⟨Ao23, co23, eo23⟩ := Kd.R_slice HO550.out; subst eo23; obtain ⟨Ao24, co24, eo24⟩ := Kd.R_slice HO553.out; subst eo24; obtain ⟨hcz25_0, hcz25_1, hcz25_2, hcz25_3, hcz25_4, hcz25_5, hcz25_6, hcz25_7, hcz25_8, hcz25_9, hfz25_0, hfz25_1, hfz25_2, hfz25_3, hfz25_4, hfz25_5, hfz25_6, hfz25_7, hfz25_8, hfz25_9⟩ := cs10_ BK536.out; have p558 : 0 ≤ (a1_0 : Int) := of_decide_eq_true tW_; have q558 : a1_0 < (l0.length : Int) := of_decide_eq_true tW_; obtain ⟨ad558, A558_1, c558_1, A558_2, c558_2, e558, hx558_0, hx558_1, hx558_2, hl558_1, hi558_1, hl558_2, hi558_2⟩ := at_T39 HR0.out a1_0 p558 q558; cases e558; have hn558_0 : ad558.block ≠ gb557 := Nat.ne_of_lt (Nat.lt_of_lt_of_le (by have := World.block_lt_of_cell? _ _ hx558_0; first | rwa [add_block] at this | exact this) GW557.out); have hn558_1 : ad558.block ≠ gb557 := Nat.ne_of_lt (Nat.lt_of_lt_of_le (by have := World.block_lt_of_cell? _ _ hx558_0; first | rwa [add_block] at this | exact this) GW557.out); have hn558_2 : ad558.block ≠ gb557 := Nat.ne_of_lt (Nat.lt_of_lt_of_le (by have := World.block_lt_of_cell? _ _ hx558_0; first | rwa [add_block] at this | exact this) GW557.out); have hn558_3 : ad558.block ≠ gb557 := Nat.ne_of_lt (Nat.lt_of_lt_of_le (by have := World.block_lt_of_cell? _ _ hx558_0; first | rwa [add_block] at this | exact this) GW557.out); have hn558_4 : ad558.block ≠ gb557 := Nat.ne_of_lt (Nat.lt_of_lt_of_le (by have := World.block_lt_of_cell? _ _ hx558_0; first | rwa [add_block] at this | exact this) GW557.out); have hn558_5 : ad558.block ≠ gb557 := Nat.ne_of_lt (Nat.lt_of_lt_of_le (by have := World.block_lt_of_cell? _ _ hx558_0; first | rwa [add_block] at this | exact this) GW557.out); have hn558_6 : ad558.block ≠ gb557 := Nat.ne_of_lt (Nat.lt_of_lt_of_le (by have := World.block_lt_of_cell? _ _ hx558_0; first | rwa [add_block] at this | exact this) GW557.out); have hn558_7 : ad558.block ≠ gb557 := Nat.ne_of_lt (Nat.lt_of_lt_of_le (by have := World.block_lt_of_cell? _ _ hx558_0; first | rwa [add_block] at this | exact this) GW557.out); have hn558_8 : ad558.block ≠ gb557 := Nat.ne_of_lt (Nat.lt_of_lt_of_le (by have := World.block_lt_of_cell? _ _ hx558_0; first | rwa [add_block] at this | exact this) GW557.out); have hn558_9 : ad558.block ≠ gb557 := Nat.ne_of_lt (Nat.lt_of_lt_of_le (by have := World.block_lt_of_cell? _ _ hx558_0; first | rwa [add_block] at this | exact this) GW557.out); replace hx558_0 := bc_ HB hx558_0; replace hx558_1 := bc_ HB hx558_1; replace hx558_2 := bc_ HB hx558_2; have HR558_1 := Aside0.mk hi558_1; have HC558_1 := Aside0.mk hl558_1; clear hi558_1 hl558_1; have HR558_2 := Aside0.mk hi558_2; have HC558_2 := Aside0.mk hl558_2; clear hi558_2 hl558_2; replace hx558_0 := (cell_far (p := ⟨gb557, 0, none⟩) (aB_ hn558_0) (.int .i64 t539)).trans hx558_0; replace hx558_1 := (cell_far (p := ⟨gb557, 0, none⟩) (aB_ hn558_0) (.int .i64 t539)).trans hx558_1; replace hx558_2 := (cell_far (p := ⟨gb557, 0, none⟩) (aB_ hn558_0) (.int .i64 t539)).trans hx558_2; replace hx558_0 := (cell_far (p := ⟨gb557, 1, none⟩) (aB_ hn558_1) (.int .i64 t540)).trans hx558_0; replace hx558_1 := (cell_far (p := ⟨gb557, 1, none⟩) (aB_ hn558_1) (.int .i64 t540)).trans hx558_1; replace hx558_2 := (cell_far (p := ⟨gb557, 1, none⟩) (aB_ hn558_1) (.int .i64 t540)).trans hx558_2; replace hx558_0 := (cell_far (p := ⟨gb557, 2, none⟩) (aB_ hn558_2) (.int .i64 t541)).trans hx558_0; replace hx558_1 := (cell_far (p := ⟨gb557, 2, none⟩) (aB_ hn558_2) (.int .i64 t541)).trans hx558_1; replace hx558_2 := (cell_far (p := ⟨gb557, 2, none⟩) (aB_ hn558_2) (.int .i64 t541)).trans hx558_2; replace hx558_0 := (cell_far (p := ⟨gb557, 3, none⟩) (aB_ hn558_3) (.slice Ao21 t542.length co21)).trans hx558_0; replace hx558_1 := (cell_far (p := ⟨gb557, 3, none⟩) (aB_ hn558_3) (.slice Ao21 t542.length co21)).trans hx558_1; replace hx558_2 := (cell_far (p := ⟨gb557, 3, none⟩) (aB_ hn558_3) (.slice Ao21 t542.length co21)).trans hx558_2; replace hx558_0 := (cell_far (p := ⟨gb557, 4, none⟩) (aB_ hn558_4) (.slice Ao22 t545.length co22)).trans hx558_0; replace hx558_1 := (cell_far (p := ⟨gb557, 4, none⟩) (aB_ hn558_4) (.slice Ao22 t545.length co22)).trans hx558_1; replace hx558_2 := (cell_far (p := ⟨gb557, 4, none⟩) (aB_ hn558_4) (.slice Ao22 t545.length co22)).trans hx558_2; replace hx558_0 := (cell_far (p := ⟨gb557, 5, none⟩) (aB_ hn558_5) (.slice Ao23 t548.length co23)).trans hx558_0; replace hx558_1 := (cell_far (p := ⟨gb557, 5, none⟩) (aB_ hn558_5) (.slice Ao23 t548.length co23)).trans hx558_1; replace hx558_2 := (cell_far (p := ⟨gb557, 5, none⟩) (aB_ hn558_5) (.slice Ao23 t548.length co23)).trans hx558_2; replace hx558_0 := (cell_far (p := ⟨gb557, 6, none⟩) (aB_ hn558_6) (.slice Ao24 t551.length co24)).trans hx558_0; replace hx558_1 := (cell_far (p := ⟨gb557, 6, none⟩) (aB_ hn558_6) (.slice Ao24 t551.length co24)).trans hx558_1; replace hx558_2 := (cell_far (p := ⟨gb557, 6, none⟩) (aB_ hn558_6) (.slice Ao24 t551.length co24)).trans hx558_2; replace hx558_0 := (cell_far (p := ⟨gb557, 7, none⟩) (aB_ hn558_7) (.int .i64 t554)).trans hx558_0; replace hx558_1 := (cell_far (p := ⟨gb557, 7, none⟩) (aB_ hn558_7) (.int .i64 t554)).trans hx558_1; replace hx558_2 := (cell_far (p := ⟨gb557, 7, none⟩) (aB_ hn558_7) (.int .i64 t554)).trans hx558_2; replace hx558_0 := (cell_far (p := ⟨gb557, 8, none⟩) (aB_ hn558_8) (.int .i64 t555)).trans hx558_0; replace hx558_1 := (cell_far (p := ⟨gb557, 8, none⟩) (aB_ hn558_8) (.int .i64 t555)).trans hx558_1; replace hx558_2 := (cell_far (p := ⟨gb557, 8, none⟩) (aB_ hn558_8) (.int .i64 t555)).trans hx558_2; replace hx558_0 := (cell_far (p := ⟨gb557, 9, none⟩) (aB_ hn558_9) (.bool t556)).trans hx558_0; replace hx558_1 := (cell_far (p := ⟨gb557, 9, none⟩) (aB_ hn558_9) (.bool t556)).trans hx558_1; replace hx558_2 := (cell_far (p := ⟨gb557, 9, none⟩) (aB_ hn558_9) (.bool t556)).trans hx558_2; clear hn558_0; clear hn558_1; clear hn558_2; clear hn558_3; clear hn558_4; clear hn558_5; clear hn558_6; clear hn558_7; clear hn558_8; clear hn558_9; replace p558 := eq_true p558; replace q558 := eq_true q558))
    go_loopg [34] k (fun kq v34 w' => ∃ (x34_1 : Int) (x538000_1 : Int) (x538001_1 : Int) (x538002_1 : Int) (x538007_1 : Int) (x538008_1 : Int) (x538009_1 : Bool) (x558003_1 : List Int) (x558004_1 : List Int) (x558005_1 : List Int) (x558006_1 : List Int) (u558003 : Value) (u558004 : Value) (u558005 : Value) (u558006 : Value), v34 = .int .i64 x34_1 ∧ Aside0 (plant_Haul.l0 kq a2 a3 ((rd_T39 l0 a1_0).f2) (((rd_T39 l0 a1_0).f2).length : Int) x34_1 t539 t540 t541 x558003_1 x558004_1 x558005_1 x558006_1 t554 t555 t556 = some (r1, r2, r3, r4, r5, r6, r7, r8, r9, r10, r11, r12)) ∧ Aside0 (kq ≤ k) ∧ Aside0 (Kd.R (Kd.int .i64) 3 w' w.heap.size (fun k_ => some k_ ≠ (u558004 : Value).ownBlock ∧ some k_ ≠ (u558005 : Value).ownBlock ∧ some k_ ≠ (u558006 : Value).ownBlock) u558003 x558003_1) ∧ Aside0 (Kd.R (Kd.int .i64) 3 w' w.heap.size (fun k_ => some k_ ≠ (u558003 : Value).ownBlock ∧ some k_ ≠ (u558005 : Value).ownBlock ∧ some k_ ≠ (u558006 : Value).ownBlock) u558004 x558004_1) ∧ Aside0 (Kd.R (Kd.int .i64) 3 w' w.heap.size (fun k_ => some k_ ≠ (u558003 : Value).ownBlock ∧ some k_ ≠ (u558004 : Value).ownBlock ∧ some k_ ≠ (u558006 : Value).ownBlock) u558005 x558005_1) ∧ Aside0 (Kd.R (Kd.int .i64) 3 w' w.heap.size (fun k_ => some k_ ≠ (u558003 : Value).ownBlock ∧ some k_ ≠ (u558004 : Value).ownBlock ∧ some k_ ≠ (u558005 : Value).ownBlock) u558006 x558006_1) ∧ Aside0 (w'.heap[gb536]? = some (.cells #[.int .i64 a1_0, .int .i64 a1_1, .int .i64 a1_2, (.slice A1_3 l1_3.length c1_3), (.slice A1_4 l1_4.length c1_4), (.slice A1_5 l1_5.length c1_5), (.slice A1_6 l1_6.length c1_6), .int .i64 a1_7, .int .i64 a1_8, .bool a1_9] 25 (0, 0))) ∧ Aside0 (w'.heap[gb537]? = some (.cells #[.int .i64 x538000_1, .int .i64 x538001_1, .int .i64 x538002_1, (.slice none 0 0), (.slice none 0 0), (.slice none 0 0), (.slice none 0 0), .int .i64 x538007_1, .int .i64 x538008_1, .bool x538009_1] 25 (0, 0))) ∧ Aside0 (w'.heap[gb557]? = some (.cells #[.int .i64 t539, .int .i64 t540, .int .i64 t541, u558003, u558004, u558005, u558006, .int .i64 t554, .int .i64 t555, .bool t556] 25 (0, 0))) ∧ Aside0 (Below w.heap.size w w'))
    case atStart => exact ⟨(0), (0), (0), (0), (0), (0), (false), (t542), (t545), (t548), (t551), (.slice Ao21 t542.length co21), (.slice Ao22 t545.length co22), (.slice Ao23 t548.length co23), (.slice Ao24 t551.length co24), tS_, H', ⟨Nat.le_refl _⟩, ⟨by (with_reducible repeat (first | apply Kd.R_alloc | apply Kd.R_drewN | apply Kd.R_drew)); exact Kd.R_mono (far10_ (Kd.R_types HO544.out BK557.out (by decide)) gb557 (fun _ hk => hk.2) (.int .i64 t539) (.int .i64 t540) (.int .i64 t541) (.slice Ao21 t542.length co21) (.slice Ao22 t545.length co22) (.slice Ao23 t548.length co23) (.slice Ao24 t551.length co24) (.int .i64 t554) (.int .i64 t555) (.bool t556)) (fun _ hk => ⟨hk.1.1, ⟨hk.1.2.1, hk.1.2.2⟩⟩)⟩, ⟨by (with_reducible repeat (first | apply Kd.R_alloc | apply Kd.R_drewN | apply Kd.R_drew)); exact Kd.R_mono (far10_ (Kd.R_types HO547.out BK557.out (by decide)) gb557 (fun _ hk => hk.2) (.int .i64 t539) (.int .i64 t540) (.int .i64 t541) (.slice Ao21 t542.length co21) (.slice Ao22 t545.length co22) (.slice Ao23 t548.length co23) (.slice Ao24 t551.length co24) (.int .i64 t554) (.int .i64 t555) (.bool t556)) (fun _ hk => ⟨hk.1.1, ⟨hk.1.2.1, hk.1.2.2⟩⟩)⟩, ⟨by (with_reducible repeat (first | apply Kd.R_alloc | apply Kd.R_drewN | apply Kd.R_drew)); exact Kd.R_mono (far10_ (Kd.R_types HO550.out BK557.out (by decide)) gb557 (fun _ hk => hk.2) (.int .i64 t539) (.int .i64 t540) (.int .i64 t541) (.slice Ao21 t542.length co21) (.slice Ao22 t545.length co22) (.slice Ao23 t548.length co23) (.slice Ao24 t551.length co24) (.int .i64 t554) (.int .i64 t555) (.bool t556)) (fun _ hk => ⟨hk.1.1, ⟨hk.1.2.1, hk.1.2.2⟩⟩)⟩, ⟨by (with_reducible repeat (first | apply Kd.R_alloc | apply Kd.R_drewN | apply Kd.R_drew)); exact Kd.R_mono (far10_ (Kd.R_types HO553.out BK557.out (by decide)) gb557 (fun _ hk => hk.2) (.int .i64 t539) (.int .i64 t540) (.int .i64 t541) (.slice Ao21 t542.length co21) (.slice Ao22 t545.length co22) (.slice Ao23 t548.length co23) (.slice Ao24 t551.length co24) (.int .i64 t554) (.int .i64 t555) (.bool t556)) (fun _ hk => ⟨hk.1.1, ⟨hk.1.2.1, hk.1.2.2⟩⟩)⟩, ⟨dF10_ BK536 NB536_557⟩, ⟨dF10_ BK537 NB537_557⟩, ⟨dP10_ BK557⟩, ⟨dL3_ HB GE536 GE537 GE557⟩⟩
    case round =>
     clear H'
     try clear c6
     try clear c6b0
     try clear c6b1
     try clear c8
     try clear c8b0
     try clear c9
     try clear c9b0
     try clear hcz13_0
     try clear hcz13_1
     try clear hcz13_2
     try clear hcz13_3
     try clear hcz13_4
     try clear hcz13_5
     try clear hcz13_6
     try clear hcz13_7
     try clear hcz13_8
     try clear hcz13_9
     try clear hcz15_0
     try clear hcz15_1
     try clear hcz15_2
     try clear hcz15_3
     try clear hcz15_4
     try clear hcz15_5
     try clear hcz15_6
     try clear hcz15_7
     try clear hcz15_8
     try clear hcz15_9
     try clear hcz20_0
     try clear hcz20_1
     try clear hcz20_2
     try clear hcz20_3
     try clear hcz20_4
     try clear hcz20_5
     try clear hcz20_6
     try clear hcz20_7
     try clear hcz20_8
     try clear hcz20_9
     try clear hcz25_0
     try clear hcz25_1
     try clear hcz25_2
     try clear hcz25_3
     try clear hcz25_4
     try clear hcz25_5
     try clear hcz25_6
     try clear hcz25_7
     try clear hcz25_8
     try clear hcz25_9
     try clear hfz13_0
     try clear hfz13_1
     try clear hfz13_2
     try clear hfz13_3
     try clear hfz13_4
     try clear hfz13_5
     try clear hfz13_6
     try clear hfz13_7
     try clear hfz13_8
     try clear hfz13_9
     try clear hfz15_0
     try clear hfz15_1
     try clear hfz15_2
     try clear hfz15_3
     try clear hfz15_4
     try clear hfz15_5
     try clear hfz15_6
     try clear hfz15_7
     try clear hfz15_8
     try clear hfz15_9
     try clear hfz20_0
     try clear hfz20_1
     try clear hfz20_2
     try clear hfz20_3
     try clear hfz20_4
     try clear hfz20_5
     try clear hfz20_6
     try clear hfz20_7
     try clear hfz20_8
     try clear hfz20_9
     try clear hfz25_0
     try clear hfz25_1
     try clear hfz25_2
     try clear hfz25_3
     try clear hfz25_4
     try clear hfz25_5
     try clear hfz25_6
     try clear hfz25_7
     try clear hfz25_8
     try clear hfz25_9
     try clear hx558_0
     try clear hx558_1
     try clear hx558_2
     try clear p558
     try clear q558
     obtain ⟨x34_1, x538000_1, x538001_1, x538002_1, x538007_1, x538008_1, x538009_1, x558003_1, x558004_1, x558005_1, x558006_1, u558003, u558004, u558005, u558006, rfl, HA, HK1, HO_558003, HO_558004, HO_558005, HO_558006, BK536, BK537, BK557, HB⟩ := hrel
     cases gk with
     | zero => exact absurd HA.out (by simp [plant_Haul.l0])
     | succ k1 =>
      have H := HA.out
      clear HA
      simp only [plant_Haul.l0] at H
      by_cases c26 : x34_1 < (((rd_T39 l0 a1_0).f2).length : Int)
      ·rw [if_pos c26] at H
       have c26b0 : decide (x34_1 < (((rd_T39 l0 a1_0).f2).length : Int)) = true := decide_eq_true c26
       clear c26
       by_cases c27 : 0 ≤ x34_1
       ·rw [if_pos c27] at H
        have c27b0 : decide (0 ≤ x34_1) = true := decide_eq_true c27
        clear c27
        by_cases c28 : x34_1 < (((rd_T39 l0 a1_0).f2).length : Int)
        ·rw [if_pos c28] at H
         have c28b0 : decide (x34_1 < (((rd_T39 l0 a1_0).f2).length : Int)) = true := decide_eq_true c28
         clear c28
         by_cases c29 : ((rd_T41 ((rd_T39 l0 a1_0).f2) x34_1).f0) = a2
         ·rw [if_pos c29] at H
          have c29b0 : (((rd_T41 ((rd_T39 l0 a1_0).f2) x34_1).f0) == a2) = true := beq_iff_eq.mpr c29
          have c29b1 : (((rd_T41 ((rd_T39 l0 a1_0).f2) x34_1).f0) != a2) = false := bne_eq_false_iff_eq.mpr c29
          clear c29
          by_cases c30 : x34_1 < (x558003_1.length : Int)
          ·rw [if_pos c30] at H
           have c30b0 : decide (x34_1 < (x558003_1.length : Int)) = true := decide_eq_true c30
           clear c30
           obtain ⟨ji31, hji31⟩ : ∃ j_ : Int, (mn a3 (rd x558003_1 x34_1)) = j_ := ⟨_, rfl⟩
           replace H : (if x34_1 < (x558006_1.length : Int) then (some (t539, t540, t541, (x558003_1.set (x34_1 : Int).toNat (wrap64 ((rd x558003_1 x34_1) - (ji31)))), x558004_1, x558005_1, (x558006_1.set (x34_1 : Int).toNat (mn (wrap64 ((rd x558006_1 x34_1) + (ji31))) 1000000)), t554, t555, t556, ji31, 0)) else (none)) = some (r1, r2, r3, r4, r5, r6, r7, r8, r9, r10, r11, r12) := by first | (rw [hji31] at H; exact H) | (simp only [hji31] at H ⊢; exact H)
           have hji31_ : (if (rd x558003_1 x34_1) < a3 then (rd x558003_1 x34_1) else a3) = ji31 := hji31
           obtain ⟨y563, hy563⟩ : ∃ y_ : List Int, y_ = (x558003_1.set (x34_1 : Int).toNat (wrap64 ((rd x558003_1 x34_1) - (ji31)))) := ⟨_, rfl⟩
           replace H : (if x34_1 < (x558006_1.length : Int) then (some (t539, t540, t541, y563, x558004_1, x558005_1, (x558006_1.set (x34_1 : Int).toNat (mn (wrap64 ((rd x558006_1 x34_1) + (ji31))) 1000000)), t554, t555, t556, ji31, 0)) else (none)) = some (r1, r2, r3, r4, r5, r6, r7, r8, r9, r10, r11, r12) := by first | (rw [hy563]; with_reducible exact H) | (have H2_ := (Option.bind_some _ _).symm.trans H; rw [hy563]; with_reducible exact H2_) | (have H2_ := (Option.bind_some _ _).symm.trans H; with_reducible exact H2_) | with_reducible exact H | (rw [hy563]; exact H) | exact H
           have Ny563 := Aside0.mk hy563
           clear hy563
           by_cases c33 : x34_1 < (x558006_1.length : Int)
           ·rw [if_pos c33] at H
            have c33b0 : decide (x34_1 < (x558006_1.length : Int)) = true := decide_eq_true c33
            clear c33
            obtain ⟨ji34, hji34⟩ : ∃ j_ : Int, (mn (wrap64 ((rd x558006_1 x34_1) + (ji31))) 1000000) = j_ := ⟨_, rfl⟩
            replace H : (some (t539, t540, t541, y563, x558004_1, x558005_1, (x558006_1.set (x34_1 : Int).toNat (ji34)), t554, t555, t556, ji31, 0)) = some (r1, r2, r3, r4, r5, r6, r7, r8, r9, r10, r11, r12) := by first | (rw [hji34] at H; exact H) | (simp only [hji34] at H ⊢; exact H)
            have hji34_ : (if 1000000 < (wrap64 ((rd x558006_1 x34_1) + (ji31))) then 1000000 else (wrap64 ((rd x558006_1 x34_1) + (ji31)))) = ji34 := hji34
            obtain ⟨y565, hy565⟩ : ∃ y_ : List Int, y_ = (x558006_1.set (x34_1 : Int).toNat (ji34)) := ⟨_, rfl⟩
            replace H : (some (t539, t540, t541, y563, x558004_1, x558005_1, y565, t554, t555, t556, ji31, 0)) = some (r1, r2, r3, r4, r5, r6, r7, r8, r9, r10, r11, r12) := by first | (rw [hy565]; with_reducible exact H) | (have H2_ := (Option.bind_some _ _).symm.trans H; rw [hy565]; with_reducible exact H2_) | (have H2_ := (Option.bind_some _ _).symm.trans H; with_reducible exact H2_) | with_reducible exact H | (rw [hy565]; exact H) | exact H
            have Ny565 := Aside0.mk hy565
            clear hy565
            simp only [Option.some.injEq, Prod.mk.injEq] at H
            obtain ⟨rfl, rfl, rfl, rfl, rfl, rfl, rfl, rfl, rfl, rfl, rfl, rfl⟩ := H
            have p559 : 0 ≤ (x34_1 : Int) := of_decide_eq_true tW_
            have q559 : x34_1 < (((rd_T39 l0 a1_0).f2).length : Int) := of_decide_eq_true tW_
            obtain ⟨ad559, e559, hx559_0, hx559_1⟩ := at_T41 HR558_2.out x34_1 p559 q559
            cases e559
            replace hx559_0 := bc_ HB hx559_0
            replace hx559_1 := bc_ HB hx559_1
            replace p559 := eq_true p559
            replace q559 := eq_true q559
            try go_wp2_with (first | ((with_reducible refine gate_dst (N := 14) rfl ?_); refine box_event ?hg (N := 14) ?hd (cs := #[.int .i64 0, .int .i64 0]) (t := 41) ?hr ?_; (case hd => rfl); (case hg => rfl); (case hr => first | (go_simp; done) | (go_simp; rfl)); intro gb560 hg w36 hbox hb; replace HO_558003 := Aside0.mk (Kd.R_below (dR_ HO_558003) hb); replace HO_558004 := Aside0.mk (Kd.R_below (dR_ HO_558004) hb); replace HO_558005 := Aside0.mk (Kd.R_below (dR_ HO_558005) hb); replace HO_558006 := Aside0.mk (Kd.R_below (dR_ HO_558006) hb); have BK560 := Aside0.mk (hbox); have GW560 := Aside0.mk ((dS_ hg (dL3_ HB GE536 GE537 GE557) : w.heap.size ≤ gb560)); have GE560 := Aside0.mk ((dS_ hg (dL3_ HB GE536 GE537 GE557) : w.heap.size ≤ gb560)); replace HB := Aside0.mk (below_step (dL3_ HB GE536 GE537 GE557) hb); have NB536_560 := Aside0.mk ((by rw [hg]; exact Nat.ne_of_lt (blk_lt (dB_ BK536)) : gb536 ≠ gb560)); have NB560_536 := Aside0.mk ((by rw [hg]; exact Nat.ne_of_gt (blk_lt (dB_ BK536)) : gb560 ≠ gb536)); replace BK536 := Aside0.mk (blk_below (g := gb536) (o := .cells #[.int .i64 a1_0, .int .i64 a1_1, .int .i64 a1_2, .slice A1_3 l1_3.length c1_3, .slice A1_4 l1_4.length c1_4, .slice A1_5 l1_5.length c1_5, .slice A1_6 l1_6.length c1_6, .int .i64 a1_7, .int .i64 a1_8, .bool a1_9] 25 (0, 0)) (dB_ BK536) hb); have NB537_560 := Aside0.mk ((by rw [hg]; exact Nat.ne_of_lt (blk_lt (dB_ BK537)) : gb537 ≠ gb560)); have NB560_537 := Aside0.mk ((by rw [hg]; exact Nat.ne_of_gt (blk_lt (dB_ BK537)) : gb560 ≠ gb537)); replace BK537 := Aside0.mk (blk_below (g := gb537) (o := .cells #[.int .i64 x538000_1, .int .i64 x538001_1, .int .i64 x538002_1, .slice none 0 0, .slice none 0 0, .slice none 0 0, .slice none 0 0, .int .i64 x538007_1, .int .i64 x538008_1, .bool x538009_1] 25 (0, 0)) (dB_ BK537) hb); have NB557_560 := Aside0.mk ((by rw [hg]; exact Nat.ne_of_lt (blk_lt (dB_ BK557)) : gb557 ≠ gb560)); have NB560_557 := Aside0.mk ((by rw [hg]; exact Nat.ne_of_gt (blk_lt (dB_ BK557)) : gb560 ≠ gb557)); replace BK557 := Aside0.mk (blk_below (g := gb557) (o := .cells #[.int .i64 t539, .int .i64 t540, .int .i64 t541, u558003, u558004, u558005, u558006, .int .i64 t554, .int .i64 t555, .bool t556] 25 (0, 0)) (dB_ BK557) hb); clear hb hbox hg; have hnb37 := NB560_536.out; have hnc37 := NB536_560.out; have hnb38 := NB560_537.out; have hnc38 := NB537_560.out; have hnb39 := NB560_557.out; have hnc39 := NB557_560.out; obtain ⟨hcz40_0, hcz40_1, hfz40_0, hfz40_1⟩ := cs2_ BK560.out) | ((with_reducible refine gate_store (t := 41) (p := 14) rfl ?_); refine store_event (t := 41) (p := 14) (v := ?vo_w41) (w1 := ((w36.setCell ⟨gb560, 0, none⟩ (.int .i64 ((rd_T41 ((rd_T39 l0 a1_0).f2) x34_1).f0))).setCell ⟨gb560, 1, none⟩ (.int .i64 ((rd_T41 ((rd_T39 l0 a1_0).f2) x34_1).f1)))) ?hg ?ho ?hn ?hr ?_; (case ho => rfl); (case hg => rfl); (case hn => rfl); (case hr => first | (go_simp; done) | (go_simp; rfl)); intro w41 hw; have n0_ : Aside0 (Kd.R (Kd.int .i64) 3 w41 w.heap.size (fun k_ => some k_ ≠ (u558004 : Value).ownBlock ∧ some k_ ≠ (u558005 : Value).ownBlock ∧ some k_ ≠ (u558006 : Value).ownBlock) u558003 x558003_1) := ⟨(by rw [hw]; exact (by (with_reducible repeat (first | apply Kd.R_alloc | apply Kd.R_drewN | apply Kd.R_drew)); exact Kd.R_mono (Kd.R_far (p := ⟨gb560, 1, none⟩) (Kd.R_far (p := ⟨gb560, 0, none⟩) (Kd.R_types HO_558003.out BK560.out (by decide)) (fun _ hk => hk.2) (.int .i64 ((rd_T41 ((rd_T39 l0 a1_0).f2) x34_1).f0))) (fun _ hk => hk.2) (.int .i64 ((rd_T41 ((rd_T39 l0 a1_0).f2) x34_1).f1))) (fun _ hk => ⟨hk.1.1, ⟨hk.1.2.1, hk.1.2.2⟩⟩)))⟩; have n1_ : Aside0 (Kd.R (Kd.int .i64) 3 w41 w.heap.size (fun k_ => some k_ ≠ (u558003 : Value).ownBlock ∧ some k_ ≠ (u558005 : Value).ownBlock ∧ some k_ ≠ (u558006 : Value).ownBlock) u558004 x558004_1) := ⟨(by rw [hw]; exact (by (with_reducible repeat (first | apply Kd.R_alloc | apply Kd.R_drewN | apply Kd.R_drew)); exact Kd.R_mono (Kd.R_far (p := ⟨gb560, 1, none⟩) (Kd.R_far (p := ⟨gb560, 0, none⟩) (Kd.R_types HO_558004.out BK560.out (by decide)) (fun _ hk => hk.2) (.int .i64 ((rd_T41 ((rd_T39 l0 a1_0).f2) x34_1).f0))) (fun _ hk => hk.2) (.int .i64 ((rd_T41 ((rd_T39 l0 a1_0).f2) x34_1).f1))) (fun _ hk => ⟨hk.1.1, ⟨hk.1.2.1, hk.1.2.2⟩⟩)))⟩; have n2_ : Aside0 (Kd.R (Kd.int .i64) 3 w41 w.heap.size (fun k_ => some k_ ≠ (u558003 : Value).ownBlock ∧ some k_ ≠ (u558004 : Value).ownBlock ∧ some k_ ≠ (u558006 : Value).ownBlock) u558005 x558005_1) := ⟨(by rw [hw]; exact (by (with_reducible repeat (first | apply Kd.R_alloc | apply Kd.R_drewN | apply Kd.R_drew)); exact Kd.R_mono (Kd.R_far (p := ⟨gb560, 1, none⟩) (Kd.R_far (p := ⟨gb560, 0, none⟩) (Kd.R_types HO_558005.out BK560.out (by decide)) (fun _ hk => hk.2) (.int .i64 ((rd_T41 ((rd_T39 l0 a1_0).f2) x34_1).f0))) (fun _ hk => hk.2) (.int .i64 ((rd_T41 ((rd_T39 l0 a1_0).f2) x34_1).f1))) (fun _ hk => ⟨hk.1.1, ⟨hk.1.2.1, hk.1.2.2⟩⟩)))⟩; have n3_ : Aside0 (Kd.R (Kd.int .i64) 3 w41 w.heap.size (fun k_ => some k_ ≠ (u558003 : Value).ownBlock ∧ some k_ ≠ (u558004 : Value).ownBlock ∧ some k_ ≠ (u558005 : Value).ownBlock) u558006 x558006_1) := ⟨(by rw [hw]; exact (by (with_reducible repeat (first | apply Kd.R_alloc | apply Kd.R_drewN | apply Kd.R_drew)); exact Kd.R_mono (Kd.R_far (p := ⟨gb560, 1, none⟩) (Kd.R_far (p := ⟨gb560, 0, none⟩) (Kd.R_types HO_558006.out BK560.out (by decide)) (fun _ hk => hk.2) (.int .i64 ((rd_T41 ((rd_T39 l0 a1_0).f2) x34_1).f0))) (fun _ hk => hk.2) (.int .i64 ((rd_T41 ((rd_T39 l0 a1_0).f2) x34_1).f1))) (fun _ hk => ⟨hk.1.1, ⟨hk.1.2.1, hk.1.2.2⟩⟩)))⟩; have n4_ : Aside0 (w41.heap[gb536]? = some (.cells #[.int .i64 a1_0, .int .i64 a1_1, .int .i64 a1_2, .slice A1_3 l1_3.length c1_3, .slice A1_4 l1_4.length c1_4, .slice A1_5 l1_5.length c1_5, .slice A1_6 l1_6.length c1_6, .int .i64 a1_7, .int .i64 a1_8, .bool a1_9] 25 (0, 0))) := ⟨(by rw [hw]; exact (by (with_reducible repeat (first | refine blk_drewN ?_ _ | refine blk_drew ?_ | refine blk_alloc ?_ _)); refine blk_far ?_ NB536_560.out _; (with_reducible repeat (first | refine blk_drewN ?_ _ | refine blk_drew ?_ | refine blk_alloc ?_ _)); refine blk_far ?_ NB536_560.out _; (with_reducible repeat (first | refine blk_drewN ?_ _ | refine blk_drew ?_ | refine blk_alloc ?_ _)); exact BK536.out))⟩; have n5_ : Aside0 (w41.heap[gb537]? = some (.cells #[.int .i64 x538000_1, .int .i64 x538001_1, .int .i64 x538002_1, .slice none 0 0, .slice none 0 0, .slice none 0 0, .slice none 0 0, .int .i64 x538007_1, .int .i64 x538008_1, .bool x538009_1] 25 (0, 0))) := ⟨(by rw [hw]; exact (by (with_reducible repeat (first | refine blk_drewN ?_ _ | refine blk_drew ?_ | refine blk_alloc ?_ _)); refine blk_far ?_ NB537_560.out _; (with_reducible repeat (first | refine blk_drewN ?_ _ | refine blk_drew ?_ | refine blk_alloc ?_ _)); refine blk_far ?_ NB537_560.out _; (with_reducible repeat (first | refine blk_drewN ?_ _ | refine blk_drew ?_ | refine blk_alloc ?_ _)); exact BK537.out))⟩; have n6_ : Aside0 (w41.heap[gb557]? = some (.cells #[.int .i64 t539, .int .i64 t540, .int .i64 t541, u558003, u558004, u558005, u558006, .int .i64 t554, .int .i64 t555, .bool t556] 25 (0, 0))) := ⟨(by rw [hw]; exact (by (with_reducible repeat (first | refine blk_drewN ?_ _ | refine blk_drew ?_ | refine blk_alloc ?_ _)); refine blk_far ?_ NB557_560.out _; (with_reducible repeat (first | refine blk_drewN ?_ _ | refine blk_drew ?_ | refine blk_alloc ?_ _)); refine blk_far ?_ NB557_560.out _; (with_reducible repeat (first | refine blk_drewN ?_ _ | refine blk_drew ?_ | refine blk_alloc ?_ _)); exact BK557.out))⟩; have n7_ : Aside0 (w41.heap[gb560]? = some (.cells #[.int .i64 ((rd_T41 ((rd_T39 l0 a1_0).f2) x34_1).f0), .int .i64 ((rd_T41 ((rd_T39 l0 a1_0).f2) x34_1).f1)] 41 (0, 0))) := ⟨(by rw [hw]; exact (by (with_reducible repeat (first | refine blk_drewN ?_ _ | refine blk_drew ?_ | refine blk_alloc ?_ _)); refine blk_put (cs := #[.int .i64 ((rd_T41 ((rd_T39 l0 a1_0).f2) x34_1).f0), .int .i64 0]) ?_ 1 _ rfl; (with_reducible repeat (first | refine blk_drewN ?_ _ | refine blk_drew ?_ | refine blk_alloc ?_ _)); refine blk_put (cs := #[.int .i64 0, .int .i64 0]) ?_ 0 _ rfl; (with_reducible repeat (first | refine blk_drewN ?_ _ | refine blk_drew ?_ | refine blk_alloc ?_ _)); exact BK560.out))⟩; have n8_ : Aside0 (Below w.heap.size w w41) := ⟨(by rw [hw]; exact (dL4_ HB GE536 GE537 GE557 GE560))⟩; clear hw; clear HO_558003; clear HO_558004; clear HO_558005; clear HO_558006; clear BK536; clear BK537; clear BK557; clear BK560; clear HB; have HO_558003 := n0_; have HO_558004 := n1_; have HO_558005 := n2_; have HO_558006 := n3_; have BK536 := n4_; have BK537 := n5_; have BK557 := n6_; have BK560 := n7_; have HB := n8_; clear n0_ n1_ n2_ n3_ n4_ n5_ n6_ n7_ n8_; obtain ⟨hcz42_0, hcz42_1, hfz42_0, hfz42_1⟩ := cs2_ BK560.out; have hnb43 := NB557_536.out; have hnc43 := NB536_557.out; have hnb44 := NB557_537.out; have hnc44 := NB537_557.out; obtain ⟨hcz45_0, hcz45_1, hcz45_2, hcz45_3, hcz45_4, hcz45_5, hcz45_6, hcz45_7, hcz45_8, hcz45_9, hfz45_0, hfz45_1, hfz45_2, hfz45_3, hfz45_4, hfz45_5, hfz45_6, hfz45_7, hfz45_8, hfz45_9⟩ := cs10_ BK557.out; obtain ⟨Ao46, co46, eo46⟩ := Kd.R_slice HO_558003.out; subst eo46; have p561 : 0 ≤ (x34_1 : Int) := of_decide_eq_true tW_; have q561 : x34_1 < (x558003_1.length : Int) := of_decide_eq_true tW_; obtain ⟨ad561, e561, hx561_0⟩ := Kd.at_int (Kd.R_reads' HO_558003.out).2.2 x34_1 p561 q561; cases e561; replace p561 := eq_true p561; replace q561 := eq_true q561; have p562 : 0 ≤ (x34_1 : Int) := of_decide_eq_true tW_; have q562 : x34_1 < (x558003_1.length : Int) := of_decide_eq_true tW_; obtain ⟨ad562, e562, hx562_0⟩ := Kd.at_int (Kd.R_reads' HO_558003.out).2.2 x34_1 p562 q562; obtain rfl : ad561 = ad562 := (by injection e562); replace p562 := eq_true p562; replace q562 := eq_true q562; have p32 : 0 ≤ (x34_1 : Int) := of_decide_eq_true tW_; have q32 : (x34_1 : Int) < ((x558003_1.length : Int) : Int) := of_decide_eq_true tW_; obtain ⟨go32, co32, eo32, gb32, gl32, cl32, HG32⟩ := Kd.R_form HO_558003.out (by omega); (first | cases eo32 | (injection eo32 with ea_ en_ ec_; (first | subst ea_ | (injection ea_ with ea_; subst ea_)); subst ec_; clear en_)); have GB32 := Aside0.mk gb32; have GG32 := Aside0.mk HG32; clear gb32 gl32 HG32; (first | simp only [add_plain] at hx561_0 | skip); (first | simp only [add_plain] at hx562_0 | skip); obtain ⟨hx32_0, hf32_0⟩ := Kd.R_celln 0 HO_558003.out (x34_1 : Int) p32 q32; replace p32 := eq_true p32; replace q32 := eq_true q32; obtain ⟨hy47_, hz47_⟩ := Kd.R_celln 0 HO_558003.out (x34_1 : Int) (of_decide_eq_true tW_) (of_decide_eq_true tW_); have HP47 := Kd.R_putg HO_558003.out (x34_1 : Int) (wrap64 ((rd x558003_1 x34_1) - (ji31)))) | ((with_reducible refine gate_store (t := 3) (p := 57) rfl ?_); refine store_event (t := 3) (p := 57) (v := ?vo_w48) (w1 := (w41.setCell ⟨go32, (x34_1 : Int).toNat, none⟩ (.int .i64 (wrap64 ((rd x558003_1 x34_1) - (ji31)))))) ?hg ?ho ?hn ?hr ?_; (case ho => rfl); (case hg => rfl); (case hn => rfl); (case hr => first | (go_simp; done) | (go_simp; rfl)); intro w48 hw; have hg : w41.grownBy w48 (some go32) := (by rw [hw]; exact HP47.2); have hp_ : Kd.R (Kd.int .i64) 3 w48 w.heap.size (fun k_ => some k_ ≠ (u558004 : Value).ownBlock ∧ some k_ ≠ (u558005 : Value).ownBlock ∧ some k_ ≠ (u558006 : Value).ownBlock) (.slice (some ⟨go32, 0, none⟩) x558003_1.length co46) y563 := (by rw [hw, Ny563.out]; exact HP47.1); clear HP47; replace HO_558004 := Aside0.mk (Kd.R_after (v := (.slice (some ⟨go32, 0, none⟩) x558003_1.length co46)) (v1 := (.slice (some ⟨go32, 0, none⟩) x558003_1.length co46)) (ok := (fun k_ => some k_ ≠ (u558005 : Value).ownBlock ∧ some k_ ≠ (u558006 : Value).ownBlock)) (by (with_reducible repeat (first | apply Kd.R_alloc | apply Kd.R_drewN | apply Kd.R_drew)); exact Kd.R_mono HO_558004.out (fun _ hk => ⟨⟨hk.2.1, hk.2.2⟩, hk.1⟩)) hg (.inl rfl)); replace HO_558005 := Aside0.mk (Kd.R_after (v := (.slice (some ⟨go32, 0, none⟩) x558003_1.length co46)) (v1 := (.slice (some ⟨go32, 0, none⟩) x558003_1.length co46)) (ok := (fun k_ => some k_ ≠ (u558004 : Value).ownBlock ∧ some k_ ≠ (u558006 : Value).ownBlock)) (by (with_reducible repeat (first | apply Kd.R_alloc | apply Kd.R_drewN | apply Kd.R_drew)); exact Kd.R_mono HO_558005.out (fun _ hk => ⟨⟨hk.2.1, hk.2.2⟩, hk.1⟩)) hg (.inl rfl)); replace HO_558006 := Aside0.mk (Kd.R_after (v := (.slice (some ⟨go32, 0, none⟩) x558003_1.length co46)) (v1 := (.slice (some ⟨go32, 0, none⟩) x558003_1.length co46)) (ok := (fun k_ => some k_ ≠ (u558004 : Value).ownBlock ∧ some k_ ≠ (u558005 : Value).ownBlock)) (by (with_reducible repeat (first | apply Kd.R_alloc | apply Kd.R_drewN | apply Kd.R_drew)); exact Kd.R_mono HO_558006.out (fun _ hk => ⟨⟨hk.2.1, hk.2.2⟩, hk.1⟩)) hg (.inl rfl)); replace BK536 := Aside0.mk (blk_grown (g := gb536) (o := .cells #[.int .i64 a1_0, .int .i64 a1_1, .int .i64 a1_2, .slice A1_3 l1_3.length c1_3, .slice A1_4 l1_4.length c1_4, .slice A1_5 l1_5.length c1_5, .slice A1_6 l1_6.length c1_6, .int .i64 a1_7, .int .i64 a1_8, .bool a1_9] 25 (0, 0)) (dB_ BK536) hg (Kd.R_ne HO_558003.out BK536.out (by decide))); replace BK537 := Aside0.mk (blk_grown (g := gb537) (o := .cells #[.int .i64 x538000_1, .int .i64 x538001_1, .int .i64 x538002_1, .slice none 0 0, .slice none 0 0, .slice none 0 0, .slice none 0 0, .int .i64 x538007_1, .int .i64 x538008_1, .bool x538009_1] 25 (0, 0)) (dB_ BK537) hg (Kd.R_ne HO_558003.out BK537.out (by decide))); replace BK557 := Aside0.mk (blk_grown (g := gb557) (o := .cells #[.int .i64 t539, .int .i64 t540, .int .i64 t541, .slice (some ⟨go32, 0, none⟩) x558003_1.length co46, u558004, u558005, u558006, .int .i64 t554, .int .i64 t555, .bool t556] 25 (0, 0)) (dB_ BK557) hg (Kd.R_ne HO_558003.out BK557.out (by decide))); replace BK560 := Aside0.mk (blk_grown (g := gb560) (o := .cells #[.int .i64 ((rd_T41 ((rd_T39 l0 a1_0).f2) x34_1).f0), .int .i64 ((rd_T41 ((rd_T39 l0 a1_0).f2) x34_1).f1)] 41 (0, 0)) (dB_ BK560) hg (Kd.R_ne HO_558003.out BK560.out (by decide))); replace HO_558003 := Aside0.mk (hp_); replace HB := Aside0.mk ((by rw [hw]; exact below_set (HB.out) GB32.out : Below w.heap.size w w48)); clear hg hw hp_))
            replace HO_558003 := Aside0.mk (Kd.R_drew HO_558003.out)
            replace HO_558004 := Aside0.mk (Kd.R_drew HO_558004.out)
            replace HO_558005 := Aside0.mk (Kd.R_drew HO_558005.out)
            replace HO_558006 := Aside0.mk (Kd.R_drew HO_558006.out)
            replace BK536 := Aside0.mk (blk_drew BK536.out)
            replace BK537 := Aside0.mk (blk_drew BK537.out)
            replace BK557 := Aside0.mk (blk_drew BK557.out)
            replace BK560 := Aside0.mk (blk_drew BK560.out)
            replace HB := Aside0.mk (below_drew1 HB.out)
            obtain ⟨Ao50, co50, eo50⟩ := Kd.R_slice HO_558006.out
            (first | subst eo50 | (injection eo50 with f1_ f2_ f3_; have f4_ := f1_.symm; have f5_ := f3_.symm; clear f1_ f2_ f3_; subst f4_; subst f5_))
            have p564 : 0 ≤ (x34_1 : Int) := of_decide_eq_true tW_
            have q564 : x34_1 < (x558006_1.length : Int) := of_decide_eq_true tW_
            obtain ⟨ad564, e564, hx564_0⟩ := Kd.at_int (Kd.R_reads' HO_558006.out).2.2 x34_1 p564 q564
            cases e564
            replace p564 := eq_true p564
            replace q564 := eq_true q564
            have p35 : 0 ≤ (x34_1 : Int) := of_decide_eq_true tW_
            have q35 : (x34_1 : Int) < ((x558006_1.length : Int) : Int) := of_decide_eq_true tW_
            obtain ⟨go35, co35, eo35, gb35, gl35, cl35, HG35⟩ := Kd.R_form HO_558006.out (by omega)
            (first | cases eo35 | (injection eo35 with ea_ en_ ec_; (first | subst ea_ | (injection ea_ with ea_; subst ea_)); subst ec_; clear en_))
            have GB35 := Aside0.mk gb35
            have GG35 := Aside0.mk HG35
            clear gb35 gl35 HG35
            (first | simp only [add_plain] at hx564_0 | skip)
            obtain ⟨hx35_0, hf35_0⟩ := Kd.R_celln 0 HO_558006.out (x34_1 : Int) p35 q35
            replace p35 := eq_true p35
            replace q35 := eq_true q35
            have HP51 := Kd.R_putn HO_558006.out (x34_1 : Int) ji34
            rw [← Ny565.out] at HP51
            have HQ51 := Aside0.mk HP51
            clear HP51
            refine start_ (n := 13) (S := fun w' => w'.cell? ⟨gb557, 0, none⟩ = some (.int .i64 t539) ∧ w'.cell? ⟨gb557, 1, none⟩ = some (.int .i64 t540) ∧ w'.cell? ⟨gb557, 2, none⟩ = some (.int .i64 t541) ∧ w'.cell? ⟨gb557, 3, none⟩ = some (.slice (some ⟨go32, 0, none⟩) x558003_1.length co46) ∧ w'.cell? ⟨gb557, 4, none⟩ = some (u558004) ∧ w'.cell? ⟨gb557, 5, none⟩ = some (u558005) ∧ w'.cell? ⟨gb557, 6, none⟩ = some (.slice (some ⟨go35, 0, none⟩) x558006_1.length co50) ∧ w'.cell? ⟨gb557, 7, none⟩ = some (.int .i64 t554) ∧ w'.cell? ⟨gb557, 8, none⟩ = some (.int .i64 t555) ∧ w'.cell? ⟨gb557, 9, none⟩ = some (.bool t556) ∧ w'.cell? ⟨go35, (x34_1).toNat, none⟩ = some (.int .i64 (rd x558006_1 x34_1))) (ds := [12]) #[false, false, false, false, false, false, false, false, false, false, false, false, false] (by kernel_rfl) rfl rfl ⟨(blk_cell BK557.out 0).trans rfl, (blk_cell BK557.out 1).trans rfl, (blk_cell BK557.out 2).trans rfl, (blk_cell BK557.out 3).trans rfl, (blk_cell BK557.out 4).trans rfl, (blk_cell BK557.out 5).trans rfl, (blk_cell BK557.out 6).trans rfl, (blk_cell BK557.out 7).trans rfl, (blk_cell BK557.out 8).trans rfl, (blk_cell BK557.out 9).trans rfl, hx564_0⟩ (fun hHeld => ?_); refine with_tabW plant_Haul.tab11 plant_Haul.bits11 (fun HT_ HW_ => ?_)
            generalize w48.drew = w49 at HO_558003 HO_558004 HO_558005 HO_558006 BK536 BK537 BK557 BK560 HB GG35 HQ51 hf35_0 hx35_0 hx564_0 hHeld ⊢
            refine pure_ (i := 0) (N := some 58) (v := ?_) (a' := ?_) #[true, false, false, false, false, false, false, false, false, false, false, false, false] rfl rfl (any_of HT_.out (by kernel_rfl)) (fun _ _ _ h => h) (Or.inl ⟨by rfl, ?_⟩) ?_ ?_
            rotate_left
            ·intro w'
             go_simp
             with_reducible rfl
            rotate_left
            ·simp only [Act.put, sI_, s0_, sS_, i64_w, i32_w]
             rfl
            refine pure_ (i := 2) (N := some 60) (v := ?_) (a' := ?_) #[true, false, true, false, false, false, false, false, false, false, false, false, false] rfl rfl (any_of HT_.out (by kernel_rfl)) (fun _ _ _ h => h) (Or.inl ⟨by rfl, ?_⟩) ?_ ?_
            rotate_left
            ·intro w'
             go_simp
             with_reducible rfl
            rotate_left
            ·simp only [Act.put, sI_, s0_, sS_, i64_w, i32_w]
             rfl
            refine pure_ (i := 3) (N := some 61) (v := ?_) (a' := ?_) #[true, false, true, true, false, false, false, false, false, false, false, false, false] rfl rfl (any_of HT_.out (by kernel_rfl)) (fun _ _ _ h => h) (Or.inl ⟨by rfl, ?_⟩) ?_ ?_
            rotate_left
            ·intro w'
             go_simp
             with_reducible rfl
            rotate_left
            ·simp only [Act.put, sI_, s0_, sS_, i64_w, i32_w]
             rfl
            refine pure_ (i := 5) (N := some 63) (v := ?_) (a' := ?_) #[true, false, true, true, false, true, false, false, false, false, false, false, false] rfl rfl (any_of HT_.out (by kernel_rfl)) (fun _ _ _ h => h) (Or.inl ⟨by rfl, ?_⟩) ?_ ?_
            rotate_left
            ·intro w'
             go_simp
             with_reducible rfl
            rotate_left
            ·simp only [Act.put, sI_, s0_, sS_, i64_w, i32_w]
             rfl
            refine pure_ (i := 8) (N := some 66) (v := ?_) (a' := ?_) #[true, false, true, true, false, true, false, false, true, false, false, false, false] rfl rfl (any_of HT_.out (by kernel_rfl)) (fun _ _ _ h => h) (Or.inl ⟨by rfl, ?_⟩) ?_ ?_
            rotate_left
            ·intro w'
             go_simp
             with_reducible rfl
            rotate_left
            ·simp only [Act.put, sI_, s0_, sS_, i64_w, i32_w]
             rfl
            refine take_ (i := 1) (N := some 59) (v := ?_) (a' := ?_) #[true, true, true, true, false, true, false, false, true, false, false, false, false] rfl rfl (take_ofW HT_.out HW_.out (by kernel_rfl)) (fun _ _ _ h => h) (Or.inl ⟨by rfl, ?_⟩) hHeld ?_ ?_
            rotate_left
            ·rintro w' ⟨s0, s1, s2, s3, s4, s5, s6, s7, s8, s9, s10⟩
             go_simp
             with_reducible rfl
            rotate_left
            ·simp only [Act.put, sI_, s0_, sS_, i64_w, i32_w]
             rfl
            refine take_ (i := 4) (N := some 62) (v := ?_) (a' := ?_) #[true, true, true, true, true, true, false, false, true, false, false, false, false] rfl rfl (take_ofW HT_.out HW_.out (by kernel_rfl)) (fun _ _ _ h => h) (Or.inl ⟨by rfl, ?_⟩) hHeld ?_ ?_
            rotate_left
            ·rintro w' ⟨s0, s1, s2, s3, s4, s5, s6, s7, s8, s9, s10⟩
             go_simp
             with_reducible rfl
            rotate_left
            ·simp only [Act.put, sI_, s0_, sS_, i64_w, i32_w]
             rfl
            refine pure_ (i := 6) (N := some 64) (v := ?_) (a' := ?_) #[true, true, true, true, true, true, true, false, true, false, false, false, false] rfl rfl (any_of HT_.out (by kernel_rfl)) (fun _ _ _ h => h) (Or.inl ⟨by rfl, ?_⟩) ?_ ?_
            rotate_left
            ·intro w'
             go_simp
             with_reducible rfl
            rotate_left
            ·simp only [Act.put, sI_, s0_, sS_, i64_w, i32_w]
             rfl
            refine take_ (i := 7) (N := some 65) (v := ?_) (a' := ?_) #[true, true, true, true, true, true, true, true, true, false, false, false, false] rfl rfl (take_ofW HT_.out HW_.out (by kernel_rfl)) (fun _ _ _ h => h) (Or.inl ⟨by rfl, ?_⟩) hHeld ?_ ?_
            rotate_left
            ·rintro w' ⟨s0, s1, s2, s3, s4, s5, s6, s7, s8, s9, s10⟩
             go_simp
             with_reducible rfl
            rotate_left
            ·simp only [Act.put, sI_, s0_, sS_, i64_w, i32_w]
             rfl
            refine pure_ (i := 9) (N := some 67) (v := ?_) (a' := ?_) #[true, true, true, true, true, true, true, true, true, true, false, false, false] rfl rfl (any_of HT_.out (by kernel_rfl)) (fun _ _ _ h => h) (Or.inl ⟨by rfl, ?_⟩) ?_ ?_
            rotate_left
            ·intro w'
             go_simp
             with_reducible rfl
            rotate_left
            ·simp only [Act.put, sI_, s0_, sS_, i64_w, i32_w]
             rfl
            refine pure_ (i := 10) (N := some 68) (v := ?_) (a' := ?_) #[true, true, true, true, true, true, true, true, true, true, true, false, false] rfl rfl (any_of HT_.out (by kernel_rfl)) (fun _ _ _ h => h) (Or.inl ⟨by rfl, ?_⟩) ?_ ?_
            rotate_left
            ·intro w'
             go_simp
             with_reducible rfl
            rotate_left
            ·simp only [Act.put, sI_, s0_, sS_, i64_w, i32_w]
             rfl
            refine pure_ (i := 11) (N := some 69) (v := ?_) (a' := ?_) #[true, true, true, true, true, true, true, true, true, true, true, true, false] rfl rfl (any_of HT_.out (by kernel_rfl)) (fun _ _ _ h => h) (Or.inl ⟨by rfl, ?_⟩) ?_ ?_
            rotate_left
            ·intro w'
             go_simp
             with_reducible rfl
            rotate_left
            ·simp only [Act.put, sI_, s0_, sS_, i64_w, i32_w]
             rfl
            refine last_ (i := 12) (N := none) #[true, true, true, true, true, true, true, true, true, true, true, true, true] rfl rfl (one_of HT_.out (by kernel_rfl)) (by decide) (fun K hK => ?_)
            refine skip_ (w1 := ?_) (by rfl) rfl ?_ ?_
            rotate_left
            ·go_simp
             rfl
            refine hK.out _ _ ?_
            clear hK K
            refine done_ (done_of HT_.out (by kernel_rfl)) ?_
            have n0_ : Aside0 (Kd.R (Kd.int .i64) 3 (w49.setCell ⟨go35, (x34_1 : Int).toNat, none⟩ (.int .i64 ji34)) w.heap.size (fun k_ => some k_ ≠ (u558004 : Value).ownBlock ∧ some k_ ≠ (u558005 : Value).ownBlock ∧ some k_ ≠ (.slice (some ⟨go35, 0, none⟩) x558006_1.length co50 : Value).ownBlock) (.slice (some ⟨go32, 0, none⟩) x558003_1.length co46) y563) := ⟨by (with_reducible repeat (first | apply Kd.R_alloc | apply Kd.R_drewN | apply Kd.R_drew)); exact Kd.R_mono (Kd.R_far (p := ⟨go35, (x34_1 : Int).toNat, none⟩) (Kd.R_mono HO_558003.out (fun k_ hk => (⟨hk, fun e_ => hk.2.2 (by rw [e_]; rfl)⟩ : _ ∧ k_ ≠ go35))) (fun _ hk => hk.2) (.int .i64 ji34)) (fun _ hk => ⟨hk.1.1, ⟨hk.1.2.1, hk.1.2.2⟩⟩)⟩
            have n1_ : Aside0 (Kd.R (Kd.int .i64) 3 (w49.setCell ⟨go35, (x34_1 : Int).toNat, none⟩ (.int .i64 ji34)) w.heap.size (fun k_ => some k_ ≠ (.slice (some ⟨go32, 0, none⟩) x558003_1.length co46 : Value).ownBlock ∧ some k_ ≠ (u558005 : Value).ownBlock ∧ some k_ ≠ (.slice (some ⟨go35, 0, none⟩) x558006_1.length co50 : Value).ownBlock) u558004 x558004_1) := ⟨by (with_reducible repeat (first | apply Kd.R_alloc | apply Kd.R_drewN | apply Kd.R_drew)); exact Kd.R_mono (Kd.R_far (p := ⟨go35, (x34_1 : Int).toNat, none⟩) (Kd.R_mono HO_558004.out (fun k_ hk => (⟨hk, fun e_ => hk.1.2 (by rw [e_]; rfl)⟩ : _ ∧ k_ ≠ go35))) (fun _ hk => hk.2) (.int .i64 ji34)) (fun _ hk => ⟨hk.1.2, ⟨hk.1.1.1, hk.1.1.2⟩⟩)⟩
            have n2_ : Aside0 (Kd.R (Kd.int .i64) 3 (w49.setCell ⟨go35, (x34_1 : Int).toNat, none⟩ (.int .i64 ji34)) w.heap.size (fun k_ => some k_ ≠ (.slice (some ⟨go32, 0, none⟩) x558003_1.length co46 : Value).ownBlock ∧ some k_ ≠ (u558004 : Value).ownBlock ∧ some k_ ≠ (.slice (some ⟨go35, 0, none⟩) x558006_1.length co50 : Value).ownBlock) u558005 x558005_1) := ⟨by (with_reducible repeat (first | apply Kd.R_alloc | apply Kd.R_drewN | apply Kd.R_drew)); exact Kd.R_mono (Kd.R_far (p := ⟨go35, (x34_1 : Int).toNat, none⟩) (Kd.R_mono HO_558005.out (fun k_ hk => (⟨hk, fun e_ => hk.1.2 (by rw [e_]; rfl)⟩ : _ ∧ k_ ≠ go35))) (fun _ hk => hk.2) (.int .i64 ji34)) (fun _ hk => ⟨hk.1.2, ⟨hk.1.1.1, hk.1.1.2⟩⟩)⟩
            have n3_ : Aside0 (Kd.R (Kd.int .i64) 3 (w49.setCell ⟨go35, (x34_1 : Int).toNat, none⟩ (.int .i64 ji34)) w.heap.size (fun k_ => some k_ ≠ (.slice (some ⟨go32, 0, none⟩) x558003_1.length co46 : Value).ownBlock ∧ some k_ ≠ (u558004 : Value).ownBlock ∧ some k_ ≠ (u558005 : Value).ownBlock) (.slice (some ⟨go35, 0, none⟩) x558006_1.length co50) y565) := ⟨by (with_reducible repeat (first | apply Kd.R_alloc | apply Kd.R_drewN | apply Kd.R_drew)); exact Kd.R_mono HQ51.out (fun _ hk => ⟨hk.2, ⟨hk.1.1, hk.1.2⟩⟩)⟩
            have n4_ : Aside0 ((w49.setCell ⟨go35, (x34_1 : Int).toNat, none⟩ (.int .i64 ji34)).heap[gb536]? = some (.cells #[.int .i64 a1_0, .int .i64 a1_1, .int .i64 a1_2, .slice A1_3 l1_3.length c1_3, .slice A1_4 l1_4.length c1_4, .slice A1_5 l1_5.length c1_5, .slice A1_6 l1_6.length c1_6, .int .i64 a1_7, .int .i64 a1_8, .bool a1_9] 25 (0, 0))) := ⟨by (with_reducible repeat (first | refine blk_drewN ?_ _ | refine blk_drew ?_ | refine blk_alloc ?_ _)); refine blk_far ?_ (by have h_ := Kd.R_ne HO_558006.out BK536.out (by decide); intro e_; exact h_ (by rw [e_]; rfl)) _; (with_reducible repeat (first | refine blk_drewN ?_ _ | refine blk_drew ?_ | refine blk_alloc ?_ _)); exact BK536.out⟩
            have n5_ : Aside0 ((w49.setCell ⟨go35, (x34_1 : Int).toNat, none⟩ (.int .i64 ji34)).heap[gb537]? = some (.cells #[.int .i64 x538000_1, .int .i64 x538001_1, .int .i64 x538002_1, .slice none 0 0, .slice none 0 0, .slice none 0 0, .slice none 0 0, .int .i64 x538007_1, .int .i64 x538008_1, .bool x538009_1] 25 (0, 0))) := ⟨by (with_reducible repeat (first | refine blk_drewN ?_ _ | refine blk_drew ?_ | refine blk_alloc ?_ _)); refine blk_far ?_ (by have h_ := Kd.R_ne HO_558006.out BK537.out (by decide); intro e_; exact h_ (by rw [e_]; rfl)) _; (with_reducible repeat (first | refine blk_drewN ?_ _ | refine blk_drew ?_ | refine blk_alloc ?_ _)); exact BK537.out⟩
            have n6_ : Aside0 ((w49.setCell ⟨go35, (x34_1 : Int).toNat, none⟩ (.int .i64 ji34)).heap[gb557]? = some (.cells #[.int .i64 t539, .int .i64 t540, .int .i64 t541, .slice (some ⟨go32, 0, none⟩) x558003_1.length co46, u558004, u558005, .slice (some ⟨go35, 0, none⟩) x558006_1.length co50, .int .i64 t554, .int .i64 t555, .bool t556] 25 (0, 0))) := ⟨by (with_reducible repeat (first | refine blk_drewN ?_ _ | refine blk_drew ?_ | refine blk_alloc ?_ _)); refine blk_far ?_ (by have h_ := Kd.R_ne HO_558006.out BK557.out (by decide); intro e_; exact h_ (by rw [e_]; rfl)) _; (with_reducible repeat (first | refine blk_drewN ?_ _ | refine blk_drew ?_ | refine blk_alloc ?_ _)); exact BK557.out⟩
            have n7_ : Aside0 ((w49.setCell ⟨go35, (x34_1 : Int).toNat, none⟩ (.int .i64 ji34)).heap[gb560]? = some (.cells #[.int .i64 ((rd_T41 ((rd_T39 l0 a1_0).f2) x34_1).f0), .int .i64 ((rd_T41 ((rd_T39 l0 a1_0).f2) x34_1).f1)] 41 (0, 0))) := ⟨by (with_reducible repeat (first | refine blk_drewN ?_ _ | refine blk_drew ?_ | refine blk_alloc ?_ _)); refine blk_far ?_ (by have h_ := Kd.R_ne HO_558006.out BK560.out (by decide); intro e_; exact h_ (by rw [e_]; rfl)) _; (with_reducible repeat (first | refine blk_drewN ?_ _ | refine blk_drew ?_ | refine blk_alloc ?_ _)); exact BK560.out⟩
            have n8_ : Aside0 (Below w.heap.size w (w49.setCell ⟨go35, (x34_1 : Int).toNat, none⟩ (.int .i64 ji34))) := ⟨by repeat (first | (with_reducible first | exact HB.out | apply below_alloc | apply pw_below_drewN | apply below_drew1 | refine below_set ?_ GB35.out | refine below_set ?_ GE536.out | refine below_set ?_ GE537.out | refine below_set ?_ GE557.out | refine below_set ?_ GE560.out) | exact HB.out)⟩
            (try clear HO_558003)
            (try clear HO_558004)
            (try clear HO_558005)
            (try clear HO_558006)
            (try clear BK536)
            (try clear BK537)
            (try clear BK557)
            (try clear BK560)
            (try clear HB)
            generalize (w49.setCell ⟨go35, (x34_1 : Int).toNat, none⟩ (.int .i64 ji34)) = w52 at n0_ n1_ n2_ n3_ n4_ n5_ n6_ n7_ n8_ ⊢
            have HO_558003 := n0_
            have HO_558004 := n1_
            have HO_558005 := n2_
            have HO_558006 := n3_
            have BK536 := n4_
            have BK537 := n5_
            have BK557 := n6_
            have BK560 := n7_
            have HB := n8_
            clear n0_ n1_ n2_ n3_ n4_ n5_ n6_ n7_ n8_
            obtain ⟨hcz53_0, hcz53_1, hcz53_2, hcz53_3, hcz53_4, hcz53_5, hcz53_6, hcz53_7, hcz53_8, hcz53_9, hfz53_0, hfz53_1, hfz53_2, hfz53_3, hfz53_4, hfz53_5, hfz53_6, hfz53_7, hfz53_8, hfz53_9⟩ := cs10_ BK557.out
            have hnb54 := NB537_536.out
            have hnc54 := NB536_537.out
            obtain ⟨hcz55_0, hcz55_1, hcz55_2, hcz55_3, hcz55_4, hcz55_5, hcz55_6, hcz55_7, hcz55_8, hcz55_9, hfz55_0, hfz55_1, hfz55_2, hfz55_3, hfz55_4, hfz55_5, hfz55_6, hfz55_7, hfz55_8, hfz55_9⟩ := cs10_ BK537.out
            obtain ⟨Ao56, co56, eo56⟩ := Kd.R_slice HO_558004.out
            subst eo56
            obtain ⟨Ao57, co57, eo57⟩ := Kd.R_slice HO_558005.out
            subst eo57
            try go_wp2
            refine bodyPost_ret (results_ctt rfl _ _ gb537 25 #[.int .i64 t539, .int .i64 t540, .int .i64 t541, .slice (some ⟨go32, 0, none⟩) x558003_1.length co46, .slice Ao56 x558004_1.length co56, .slice Ao57 x558005_1.length co57, .slice (some ⟨go35, 0, none⟩) x558006_1.length co50, .int .i64 t554, .int .i64 t555, .bool t556] (0, 0) _ rfl (dP10_ BK537) Try.underlying25 rfl (by kernel_rfl)) rfl ?_
            exact ⟨_, _, _, _, by first | rfl | (simp [errW_none, errW_some] <;> rfl) | (simp only [← hji31, ← hji34]; first | rfl | (simp [errW_none, errW_some] <;> rfl)) | (simp [*, errW_none, errW_some] <;> rfl), by (with_reducible repeat (first | apply Kd.R_alloc | apply Kd.R_drewN | apply Kd.R_drew)); exact Kd.R_mono (far10_ (Kd.R_types HO_558003.out BK537.out (by decide)) gb537 (fun _ hk => hk.2) (.int .i64 t539) (.int .i64 t540) (.int .i64 t541) (.slice (some ⟨go32, 0, none⟩) x558003_1.length co46) (.slice Ao56 x558004_1.length co56) (.slice Ao57 x558005_1.length co57) (.slice (some ⟨go35, 0, none⟩) x558006_1.length co50) (.int .i64 t554) (.int .i64 t555) (.bool t556)) (fun _ hk => ⟨hk.1.1, ⟨hk.1.2.1, hk.1.2.2⟩⟩), by (with_reducible repeat (first | apply Kd.R_alloc | apply Kd.R_drewN | apply Kd.R_drew)); exact Kd.R_mono (far10_ (Kd.R_types HO_558004.out BK537.out (by decide)) gb537 (fun _ hk => hk.2) (.int .i64 t539) (.int .i64 t540) (.int .i64 t541) (.slice (some ⟨go32, 0, none⟩) x558003_1.length co46) (.slice Ao56 x558004_1.length co56) (.slice Ao57 x558005_1.length co57) (.slice (some ⟨go35, 0, none⟩) x558006_1.length co50) (.int .i64 t554) (.int .i64 t555) (.bool t556)) (fun _ hk => ⟨hk.1.1, ⟨hk.1.2.1, hk.1.2.2⟩⟩), by (with_reducible repeat (first | apply Kd.R_alloc | apply Kd.R_drewN | apply Kd.R_drew)); exact Kd.R_mono (far10_ (Kd.R_types HO_558005.out BK537.out (by decide)) gb537 (fun _ hk => hk.2) (.int .i64 t539) (.int .i64 t540) (.int .i64 t541) (.slice (some ⟨go32, 0, none⟩) x558003_1.length co46) (.slice Ao56 x558004_1.length co56) (.slice Ao57 x558005_1.length co57) (.slice (some ⟨go35, 0, none⟩) x558006_1.length co50) (.int .i64 t554) (.int .i64 t555) (.bool t556)) (fun _ hk => ⟨hk.1.1, ⟨hk.1.2.1, hk.1.2.2⟩⟩), by (with_reducible repeat (first | apply Kd.R_alloc | apply Kd.R_drewN | apply Kd.R_drew)); exact Kd.R_mono (far10_ (Kd.R_types HO_558006.out BK537.out (by decide)) gb537 (fun _ hk => hk.2) (.int .i64 t539) (.int .i64 t540) (.int .i64 t541) (.slice (some ⟨go32, 0, none⟩) x558003_1.length co46) (.slice Ao56 x558004_1.length co56) (.slice Ao57 x558005_1.length co57) (.slice (some ⟨go35, 0, none⟩) x558006_1.length co50) (.int .i64 t554) (.int .i64 t555) (.bool t556)) (fun _ hk => ⟨hk.1.1, ⟨hk.1.2.1, hk.1.2.2⟩⟩), dL4_ HB GE536 GE537 GE557 GE560⟩
           ·rw [if_neg c33] at H
            exact absurd H (by simp)
          ·rw [if_neg c30] at H
           exact absurd H (by simp)
         ·rw [if_neg c29] at H
          have c29b0 : (((rd_T41 ((rd_T39 l0 a1_0).f2) x34_1).f0) == a2) = false := beq_eq_false_iff_ne.mpr c29
          have c29b1 : (((rd_T41 ((rd_T39 l0 a1_0).f2) x34_1).f0) != a2) = true := bne_iff_ne.mpr c29
          have H' := Aside0.mk H
          clear H
          have p559 : 0 ≤ (x34_1 : Int) := of_decide_eq_true tW_
          have q559 : x34_1 < (((rd_T39 l0 a1_0).f2).length : Int) := of_decide_eq_true tW_
          obtain ⟨ad559, e559, hx559_0, hx559_1⟩ := at_T41 HR558_2.out x34_1 p559 q559
          cases e559
          replace hx559_0 := bc_ HB hx559_0
          replace hx559_1 := bc_ HB hx559_1
          replace p559 := eq_true p559
          replace q559 := eq_true q559
          go_wp2_with (first | ((with_reducible refine gate_dst (N := 14) rfl ?_); refine box_event ?hg (N := 14) ?hd (cs := #[.int .i64 0, .int .i64 0]) (t := 41) ?hr ?_; (case hd => rfl); (case hg => rfl); (case hr => first | (go_simp; done) | (go_simp; rfl)); intro gb560 hg w58 hbox hb; replace HO_558003 := Aside0.mk (Kd.R_below (dR_ HO_558003) hb); replace HO_558004 := Aside0.mk (Kd.R_below (dR_ HO_558004) hb); replace HO_558005 := Aside0.mk (Kd.R_below (dR_ HO_558005) hb); replace HO_558006 := Aside0.mk (Kd.R_below (dR_ HO_558006) hb); have BK560 := Aside0.mk (hbox); have GW560 := Aside0.mk ((dS_ hg (dL3_ HB GE536 GE537 GE557) : w.heap.size ≤ gb560)); have GE560 := Aside0.mk ((dS_ hg (dL3_ HB GE536 GE537 GE557) : w.heap.size ≤ gb560)); replace HB := Aside0.mk (below_step (dL3_ HB GE536 GE537 GE557) hb); have NB536_560 := Aside0.mk ((by rw [hg]; exact Nat.ne_of_lt (blk_lt (dB_ BK536)) : gb536 ≠ gb560)); have NB560_536 := Aside0.mk ((by rw [hg]; exact Nat.ne_of_gt (blk_lt (dB_ BK536)) : gb560 ≠ gb536)); replace BK536 := Aside0.mk (blk_below (g := gb536) (o := .cells #[.int .i64 a1_0, .int .i64 a1_1, .int .i64 a1_2, .slice A1_3 l1_3.length c1_3, .slice A1_4 l1_4.length c1_4, .slice A1_5 l1_5.length c1_5, .slice A1_6 l1_6.length c1_6, .int .i64 a1_7, .int .i64 a1_8, .bool a1_9] 25 (0, 0)) (dB_ BK536) hb); have NB537_560 := Aside0.mk ((by rw [hg]; exact Nat.ne_of_lt (blk_lt (dB_ BK537)) : gb537 ≠ gb560)); have NB560_537 := Aside0.mk ((by rw [hg]; exact Nat.ne_of_gt (blk_lt (dB_ BK537)) : gb560 ≠ gb537)); replace BK537 := Aside0.mk (blk_below (g := gb537) (o := .cells #[.int .i64 x538000_1, .int .i64 x538001_1, .int .i64 x538002_1, .slice none 0 0, .slice none 0 0, .slice none 0 0, .slice none 0 0, .int .i64 x538007_1, .int .i64 x538008_1, .bool x538009_1] 25 (0, 0)) (dB_ BK537) hb); have NB557_560 := Aside0.mk ((by rw [hg]; exact Nat.ne_of_lt (blk_lt (dB_ BK557)) : gb557 ≠ gb560)); have NB560_557 := Aside0.mk ((by rw [hg]; exact Nat.ne_of_gt (blk_lt (dB_ BK557)) : gb560 ≠ gb557)); replace BK557 := Aside0.mk (blk_below (g := gb557) (o := .cells #[.int .i64 t539, .int .i64 t540, .int .i64 t541, u558003, u558004, u558005, u558006, .int .i64 t554, .int .i64 t555, .bool t556] 25 (0, 0)) (dB_ BK557) hb); clear hb hbox hg; have hnb59 := NB560_536.out; have hnc59 := NB536_560.out; have hnb60 := NB560_537.out; have hnc60 := NB537_560.out; have hnb61 := NB560_557.out; have hnc61 := NB557_560.out; obtain ⟨hcz62_0, hcz62_1, hfz62_0, hfz62_1⟩ := cs2_ BK560.out))
          go_roundg k1
          case measure => have := HK1.out; omega
          case rel => exact ⟨(wrap64 (x34_1 + 1)), (x538000_1), (x538001_1), (x538002_1), (x538007_1), (x538008_1), (x538009_1), (x558003_1), (x558004_1), (x558005_1), (x558006_1), (u558003), (u558004), (u558005), (u558006), tS_, H', ⟨by have := HK1.out; omega⟩, ⟨by (with_reducible repeat (first | apply Kd.R_alloc | apply Kd.R_drewN | apply Kd.R_drew)); exact Kd.R_mono (Kd.R_far (p := ⟨gb560, 1, none⟩) (Kd.R_far (p := ⟨gb560, 0, none⟩) (Kd.R_types HO_558003.out BK560.out (by decide)) (fun _ hk => hk.2) (.int .i64 ((rd_T41 ((rd_T39 l0 a1_0).f2) x34_1).f0))) (fun _ hk => hk.2) (.int .i64 ((rd_T41 ((rd_T39 l0 a1_0).f2) x34_1).f1))) (fun _ hk => ⟨hk.1.1, ⟨hk.1.2.1, hk.1.2.2⟩⟩)⟩, ⟨by (with_reducible repeat (first | apply Kd.R_alloc | apply Kd.R_drewN | apply Kd.R_drew)); exact Kd.R_mono (Kd.R_far (p := ⟨gb560, 1, none⟩) (Kd.R_far (p := ⟨gb560, 0, none⟩) (Kd.R_types HO_558004.out BK560.out (by decide)) (fun _ hk => hk.2) (.int .i64 ((rd_T41 ((rd_T39 l0 a1_0).f2) x34_1).f0))) (fun _ hk => hk.2) (.int .i64 ((rd_T41 ((rd_T39 l0 a1_0).f2) x34_1).f1))) (fun _ hk => ⟨hk.1.1, ⟨hk.1.2.1, hk.1.2.2⟩⟩)⟩, ⟨by (with_reducible repeat (first | apply Kd.R_alloc | apply Kd.R_drewN | apply Kd.R_drew)); exact Kd.R_mono (Kd.R_far (p := ⟨gb560, 1, none⟩) (Kd.R_far (p := ⟨gb560, 0, none⟩) (Kd.R_types HO_558005.out BK560.out (by decide)) (fun _ hk => hk.2) (.int .i64 ((rd_T41 ((rd_T39 l0 a1_0).f2) x34_1).f0))) (fun _ hk => hk.2) (.int .i64 ((rd_T41 ((rd_T39 l0 a1_0).f2) x34_1).f1))) (fun _ hk => ⟨hk.1.1, ⟨hk.1.2.1, hk.1.2.2⟩⟩)⟩, ⟨by (with_reducible repeat (first | apply Kd.R_alloc | apply Kd.R_drewN | apply Kd.R_drew)); exact Kd.R_mono (Kd.R_far (p := ⟨gb560, 1, none⟩) (Kd.R_far (p := ⟨gb560, 0, none⟩) (Kd.R_types HO_558006.out BK560.out (by decide)) (fun _ hk => hk.2) (.int .i64 ((rd_T41 ((rd_T39 l0 a1_0).f2) x34_1).f0))) (fun _ hk => hk.2) (.int .i64 ((rd_T41 ((rd_T39 l0 a1_0).f2) x34_1).f1))) (fun _ hk => ⟨hk.1.1, ⟨hk.1.2.1, hk.1.2.2⟩⟩)⟩, ⟨by (with_reducible repeat (first | refine blk_drewN ?_ _ | refine blk_drew ?_ | refine blk_alloc ?_ _)); refine blk_far ?_ NB536_560.out _; (with_reducible repeat (first | refine blk_drewN ?_ _ | refine blk_drew ?_ | refine blk_alloc ?_ _)); refine blk_far ?_ NB536_560.out _; (with_reducible repeat (first | refine blk_drewN ?_ _ | refine blk_drew ?_ | refine blk_alloc ?_ _)); exact BK536.out⟩, ⟨by (with_reducible repeat (first | refine blk_drewN ?_ _ | refine blk_drew ?_ | refine blk_alloc ?_ _)); refine blk_far ?_ NB537_560.out _; (with_reducible repeat (first | refine blk_drewN ?_ _ | refine blk_drew ?_ | refine blk_alloc ?_ _)); refine blk_far ?_ NB537_560.out _; (with_reducible repeat (first | refine blk_drewN ?_ _ | refine blk_drew ?_ | refine blk_alloc ?_ _)); exact BK537.out⟩, ⟨by (with_reducible repeat (first | refine blk_drewN ?_ _ | refine blk_drew ?_ | refine blk_alloc ?_ _)); refine blk_far ?_ NB557_560.out _; (with_reducible repeat (first | refine blk_drewN ?_ _ | refine blk_drew ?_ | refine blk_alloc ?_ _)); refine blk_far ?_ NB557_560.out _; (with_reducible repeat (first | refine blk_drewN ?_ _ | refine blk_drew ?_ | refine blk_alloc ?_ _)); exact BK557.out⟩, ⟨dL4_ HB GE536 GE537 GE557 GE560⟩⟩
        ·rw [if_neg c28] at H
         exact absurd H (by simp)
       ·rw [if_neg c27] at H
        exact absurd H (by simp)
      ·rw [if_neg c26] at H
       have c26b0 : decide (x34_1 < (((rd_T39 l0 a1_0).f2).length : Int)) = false := decide_eq_false c26
       clear c26
       simp only [Option.some.injEq, Prod.mk.injEq] at H
       obtain ⟨rfl, rfl, rfl, rfl, rfl, rfl, rfl, rfl, rfl, rfl, rfl, rfl⟩ := H
       have hnb63 := NB557_536.out
       have hnc63 := NB536_557.out
       have hnb64 := NB557_537.out
       have hnc64 := NB537_557.out
       obtain ⟨hcz65_0, hcz65_1, hcz65_2, hcz65_3, hcz65_4, hcz65_5, hcz65_6, hcz65_7, hcz65_8, hcz65_9, hfz65_0, hfz65_1, hfz65_2, hfz65_3, hfz65_4, hfz65_5, hfz65_6, hfz65_7, hfz65_8, hfz65_9⟩ := cs10_ BK557.out
       have hnb66 := NB537_536.out
       have hnc66 := NB536_537.out
       obtain ⟨hcz67_0, hcz67_1, hcz67_2, hcz67_3, hcz67_4, hcz67_5, hcz67_6, hcz67_7, hcz67_8, hcz67_9, hfz67_0, hfz67_1, hfz67_2, hfz67_3, hfz67_4, hfz67_5, hfz67_6, hfz67_7, hfz67_8, hfz67_9⟩ := cs10_ BK537.out
       obtain ⟨Ao68, co68, eo68⟩ := Kd.R_slice HO_558003.out
       subst eo68
       obtain ⟨Ao69, co69, eo69⟩ := Kd.R_slice HO_558004.out
       subst eo69
       obtain ⟨Ao70, co70, eo70⟩ := Kd.R_slice HO_558005.out
       subst eo70
       obtain ⟨Ao71, co71, eo71⟩ := Kd.R_slice HO_558006.out
       subst eo71
       go_wp2
       refine bodyPost_ret (results_ctt rfl _ _ gb537 25 #[.int .i64 t539, .int .i64 t540, .int .i64 t541, .slice Ao68 x558003_1.length co68, .slice Ao69 x558004_1.length co69, .slice Ao70 x558005_1.length co70, .slice Ao71 x558006_1.length co71, .int .i64 t554, .int .i64 t555, .bool t556] (0, 0) _ rfl (dP10_ BK537) Try.underlying25 rfl (by kernel_rfl)) rfl ?_
       exact ⟨_, _, _, _, tE_, by (with_reducible repeat (first | apply Kd.R_alloc | apply Kd.R_drewN | apply Kd.R_drew)); exact Kd.R_mono (far10_ (Kd.R_types HO_558003.out BK537.out (by decide)) gb537 (fun _ hk => hk.2) (.int .i64 t539) (.int .i64 t540) (.int .i64 t541) (.slice Ao68 x558003_1.length co68) (.slice Ao69 x558004_1.length co69) (.slice Ao70 x558005_1.length co70) (.slice Ao71 x558006_1.length co71) (.int .i64 t554) (.int .i64 t555) (.bool t556)) (fun _ hk => ⟨hk.1.1, ⟨hk.1.2.1, hk.1.2.2⟩⟩), by (with_reducible repeat (first | apply Kd.R_alloc | apply Kd.R_drewN | apply Kd.R_drew)); exact Kd.R_mono (far10_ (Kd.R_types HO_558004.out BK537.out (by decide)) gb537 (fun _ hk => hk.2) (.int .i64 t539) (.int .i64 t540) (.int .i64 t541) (.slice Ao68 x558003_1.length co68) (.slice Ao69 x558004_1.length co69) (.slice Ao70 x558005_1.length co70) (.slice Ao71 x558006_1.length co71) (.int .i64 t554) (.int .i64 t555) (.bool t556)) (fun _ hk => ⟨hk.1.1, ⟨hk.1.2.1, hk.1.2.2⟩⟩), by (with_reducible repeat (first | apply Kd.R_alloc | apply Kd.R_drewN | apply Kd.R_drew)); exact Kd.R_mono (far10_ (Kd.R_types HO_558005.out BK537.out (by decide)) gb537 (fun _ hk => hk.2) (.int .i64 t539) (.int .i64 t540) (.int .i64 t541) (.slice Ao68 x558003_1.length co68) (.slice Ao69 x558004_1.length co69) (.slice Ao70 x558005_1.length co70) (.slice Ao71 x558006_1.length co71) (.int .i64 t554) (.int .i64 t555) (.bool t556)) (fun _ hk => ⟨hk.1.1, ⟨hk.1.2.1, hk.1.2.2⟩⟩), by (with_reducible repeat (first | apply Kd.R_alloc | apply Kd.R_drewN | apply Kd.R_drew)); exact Kd.R_mono (far10_ (Kd.R_types HO_558006.out BK537.out (by decide)) gb537 (fun _ hk => hk.2) (.int .i64 t539) (.int .i64 t540) (.int .i64 t541) (.slice Ao68 x558003_1.length co68) (.slice Ao69 x558004_1.length co69) (.slice Ao70 x558005_1.length co70) (.slice Ao71 x558006_1.length co71) (.int .i64 t554) (.int .i64 t555) (.bool t556)) (fun _ hk => ⟨hk.1.1, ⟨hk.1.2.1, hk.1.2.2⟩⟩), dL3_ HB GE536 GE537 GE557⟩
   ·rw [if_neg c9] at H
    exact absurd H (by simp)
  ·rw [if_neg c8] at H
   exact absurd H (by simp)
 ·rw [if_neg c6] at H
  have c6b0 : (t538 == 0) = false := beq_eq_false_iff_ne.mpr c6
  have c6b1 : (t538 != 0) = true := bne_iff_ne.mpr c6
  simp only [Option.some.injEq, Prod.mk.injEq] at H
  obtain ⟨rfl, rfl, rfl, rfl, rfl, rfl, rfl, rfl, rfl, rfl, rfl, rfl⟩ := H
  go_enter Try.func22, Try.ntmps22
  go_wp2_with (first | ((with_reducible refine gate_dst (N := 5) rfl ?_); refine box_event ?hg (N := 5) ?hd (cs := #[.int .i64 a1_0, .int .i64 a1_1, .int .i64 a1_2, .slice A1_3 l1_3.length c1_3, .slice A1_4 l1_4.length c1_4, .slice A1_5 l1_5.length c1_5, .slice A1_6 l1_6.length c1_6, .int .i64 a1_7, .int .i64 a1_8, .bool a1_9]) (t := 25) ?hr ?_; (case hd => rfl); (case hg => rfl); (case hr => first | (go_simp; done) | (go_simp; rfl)); intro gb536 hg w72 hbox hb; have BK536 := Aside0.mk (hbox); have GW536 := Aside0.mk ((dS_ hg (dL_ HB) : w.heap.size ≤ gb536)); have GE536 := Aside0.mk ((dS_ hg (dL_ HB) : w.heap.size ≤ gb536)); replace HB := Aside0.mk (below_step (dL_ HB) hb); clear hb hbox hg) | ((with_reducible refine gate_dst (N := 8) rfl ?_); refine box_event ?hg (N := 8) ?hd (cs := #[.int .i64 0, .int .i64 0, .int .i64 0, .slice none 0 0, .slice none 0 0, .slice none 0 0, .slice none 0 0, .int .i64 0, .int .i64 0, .bool false]) (t := 25) ?hr ?_; (case hd => rfl); (case hg => rfl); (case hr => first | (go_simp; done) | (go_simp; rfl)); intro gb537 hg w73 hbox hb; have BK537 := Aside0.mk (hbox); have GW537 := Aside0.mk ((dS_ hg (dL1_ HB GE536) : w.heap.size ≤ gb537)); have GE537 := Aside0.mk ((dS_ hg (dL1_ HB GE536) : w.heap.size ≤ gb537)); replace HB := Aside0.mk (below_step (dL1_ HB GE536) hb); have NB536_537 := Aside0.mk ((by rw [hg]; exact Nat.ne_of_lt (blk_lt (dB_ BK536)) : gb536 ≠ gb537)); have NB537_536 := Aside0.mk ((by rw [hg]; exact Nat.ne_of_gt (blk_lt (dB_ BK536)) : gb537 ≠ gb536)); replace BK536 := Aside0.mk (blk_below (g := gb536) (o := .cells #[.int .i64 a1_0, .int .i64 a1_1, .int .i64 a1_2, .slice A1_3 l1_3.length c1_3, .slice A1_4 l1_4.length c1_4, .slice A1_5 l1_5.length c1_5, .slice A1_6 l1_6.length c1_6, .int .i64 a1_7, .int .i64 a1_8, .bool a1_9] 25 (0, 0)) (dB_ BK536) hb); clear hb hbox hg; have hnb74 := NB536_537.out; have hnc74 := NB537_536.out; obtain ⟨hcz75_0, hcz75_1, hcz75_2, hcz75_3, hcz75_4, hcz75_5, hcz75_6, hcz75_7, hcz75_8, hcz75_9, hfz75_0, hfz75_1, hfz75_2, hfz75_3, hfz75_4, hfz75_5, hfz75_6, hfz75_7, hfz75_8, hfz75_9⟩ := cs10_ BK536.out) | ((with_reducible refine gate_callee (f := 38) rfl ?_); refine goesL_ (some 20) rfl rfl Try.func38 (by kernel_rfl) rfl #[.slice A0 l0.length c0, .agg #[.int .i64 a1_0, .int .i64 a1_1, .int .i64 a1_2, .slice A1_3 l1_3.length c1_3, .slice A1_4 l1_4.length c1_4, .slice A1_5 l1_5.length c1_5, .slice A1_6 l1_6.length c1_6, .int .i64 a1_7, .int .i64 a1_8, .bool a1_9], .int .i64 a2, .int .i64 a3] rfl tA_ ?_; (with_reducible refine (plant_argued.calls k _ _ l0 a1_0 a1_1 a1_2 _ _ l1_3 _ _ l1_4 _ _ l1_5 _ _ l1_6 a1_7 a1_8 a1_9 a2 a3 t538 _ ?side1 ?side2 ?side3 ?side4 ?side5 ?side6 ?side7 ?side8 ?side9 ?side10 A5.out).mono ?_); (case side1 => exact dC_ HR0 HB); (case side2 => exact HC0.out); (case side3 => exact dC_ HR1_3 HB); (case side4 => exact HC1_3.out); (case side5 => exact dC_ HR1_4 HB); (case side6 => exact HC1_4.out); (case side7 => exact dC_ HR1_5 HB); (case side8 => exact HC1_5.out); (case side9 => exact dC_ HR1_6 HB); (case side10 => exact HC1_6.out); rintro e w76 ⟨rfl, hb⟩; refine ⟨_, rfl, ?_⟩; replace BK536 := Aside0.mk (blk_below (g := gb536) (o := .cells #[.int .i64 a1_0, .int .i64 a1_1, .int .i64 a1_2, .slice A1_3 l1_3.length c1_3, .slice A1_4 l1_4.length c1_4, .slice A1_5 l1_5.length c1_5, .slice A1_6 l1_6.length c1_6, .int .i64 a1_7, .int .i64 a1_8, .bool a1_9] 25 (0, 0)) (dB_ BK536) hb); replace BK537 := Aside0.mk (blk_below (g := gb537) (o := .cells #[.int .i64 0, .int .i64 0, .int .i64 0, .slice none 0 0, .slice none 0 0, .slice none 0 0, .slice none 0 0, .int .i64 0, .int .i64 0, .bool false] 25 (0, 0)) (dB_ BK537) hb); replace HB := Aside0.mk (below_step (dL2_ HB GE536 GE537) hb); obtain ⟨hcz77_0, hcz77_1, hcz77_2, hcz77_3, hcz77_4, hcz77_5, hcz77_6, hcz77_7, hcz77_8, hcz77_9, hfz77_0, hfz77_1, hfz77_2, hfz77_3, hfz77_4, hfz77_5, hfz77_6, hfz77_7, hfz77_8, hfz77_9⟩ := cs10_ BK537.out))
  refine bodyPost_ret (results_ctt rfl _ _ gb537 25 #[.int .i64 0, .int .i64 0, .int .i64 0, .slice none 0 0, .slice none 0 0, .slice none 0 0, .slice none 0 0, .int .i64 0, .int .i64 0, .bool false] (0, 0) _ rfl (dP10_ BK537) Try.underlying25 rfl (by kernel_rfl)) rfl ?_
  exact ⟨_, _, _, _, tE_, by first | exact Kd.R_nil _ _ _ _ _ | exact Kd.N_nil _ _ _ _ _ | exact Kd.V_nil _ _ _ _ _ | exact Kd.Q_nil _ _ _ _ _ | exact Kd.S_nil _ _ _ _ _, by first | exact Kd.R_nil _ _ _ _ _ | exact Kd.N_nil _ _ _ _ _ | exact Kd.V_nil _ _ _ _ _ | exact Kd.Q_nil _ _ _ _ _ | exact Kd.S_nil _ _ _ _ _, by first | exact Kd.R_nil _ _ _ _ _ | exact Kd.N_nil _ _ _ _ _ | exact Kd.V_nil _ _ _ _ _ | exact Kd.Q_nil _ _ _ _ _ | exact Kd.S_nil _ _ _ _ _, by first | exact Kd.R_nil _ _ _ _ _ | exact Kd.N_nil _ _ _ _ _ | exact Kd.V_nil _ _ _ _ _ | exact Kd.Q_nil _ _ _ _ _ | exact Kd.S_nil _ _ _ _ _, dL2_ HB GE536 GE537⟩

end Go.Proofs.Ytnkgelnkoljgdaa.Q
