-- PRINTED by print.py (a twelfth state) out of the translation. Not trusted: Lean checks it.
import Derived.Test.YtnkgelnkoljgdaaPrs
import Derived.Test.YtnkgelnkoljgdaaQ0
import Derived.Test.YtnkgelnkoljgdaaQ14
import Derived.Test.YtnkgelnkoljgdaaQ17
import Derived.Test.YtnkgelnkoljgdaaQ18
namespace Go.Proofs.Ytnkgelnkoljgdaa.Q
open Go.RowKit Go.Proofs.YtnkgelnkoljgdaaPrs Go.Proofs.YtnkgelnkoljgdaaOwn Go.Proofs.YtnkgelnkoljgdaaW.PrintWords Go.Proofs.YtnkgelnkoljgdaaW.PrintLast Go.Proofs.YtnkgelnkoljgdaaW.PrintMore
attribute [local go_sem] max2_int min2_int max_two min_two max_three min_three max_four min_four   -- for this text's walks alone
set_option linter.unusedVariables false
set_option linter.unusedSimpArgs false

/-! ### hinterlandref10_Validate: function 16 -/
mutual
def hinterlandref10_Validate.j0 : Nat → List (S39) → Bool → Int → Int → Int → List Int → List Int → List Int → List Int → Int → Int → Bool → Option (Int)
  | 0, _, _, _, _, _, _, _, _, _, _, _, _ => none
  | k + 1, x0, x21, x269000, x269001, x269002, x269003, x269004, x269005, x269006, x269007, x269008, x269009 => if x21 = true then (some 2) else (if 0 ≤ x269000 then (if x269000 < (x0.length : Int) then ((hinterlandref10_within.f x269001 0 1000000).bind fun t271 => (if t271 = true then ((hinterlandref10_within.f x269002 1 64).bind fun t272 => (if t272 = true then ((hinterlandref10_within.f x269007 0 1000000).bind fun t273 => (if t273 = true then ((hinterlandref10_within.f x269008 0 1000000).bind fun t274 => (if t274 = true then ((hinterlandref10_counts.f k x269003 (((rd_T39 x0 x269000).f2).length : Int) 1000000).bind fun t275 => (if t275 = true then ((hinterlandref10_counts.f k x269004 (((rd_T39 x0 x269000).f2).length : Int) 7).bind fun t276 => (if t276 = true then ((hinterlandref10_counts.f k x269005 (((rd_T39 x0 x269000).f2).length : Int) 1000000).bind fun t277 => (if t277 = true then ((hinterlandref10_counts.f k x269006 (((rd_T39 x0 x269000).f2).length : Int) 1000000).bind fun t278 => (hinterlandref10_Validate.j1 k (!t278))) else (hinterlandref10_Validate.j1 k true))) else (hinterlandref10_Validate.j1 k true))) else (hinterlandref10_Validate.j1 k true))) else (hinterlandref10_Validate.j1 k true))) else (hinterlandref10_Validate.j1 k true))) else (hinterlandref10_Validate.j1 k true))) else (hinterlandref10_Validate.j1 k true))) else (none)) else (none))
def hinterlandref10_Validate.j1 : Nat → Bool → Option (Int)
  | 0, _ => none
  | k + 1, x78 => if x78 = true then (some 1) else (some 0)
end
def hinterlandref10_Validate.f (k : Nat) (l0 : List (S39)) (a1_0 : Int) (a1_1 : Int) (a1_2 : Int) (l1_3 : List Int) (l1_4 : List Int) (l1_5 : List Int) (l1_6 : List Int) (a1_7 : Int) (a1_8 : Int) (a1_9 : Bool) : Option (Int) := (hinterlandref10_ValidateKinds.f k l0).bind fun t269 => (if t269 = 0 then (if a1_0 < 0 then (hinterlandref10_Validate.j0 k l0 true a1_0 a1_1 a1_2 l1_3 l1_4 l1_5 l1_6 a1_7 a1_8 a1_9) else (hinterlandref10_Validate.j0 k l0 (decide (a1_0 ≥ (l0.length : Int))) a1_0 a1_1 a1_2 l1_3 l1_4 l1_5 l1_6 a1_7 a1_8 a1_9)) else (some t269))
theorem hinterlandref10_Validate.mono_l : ∀ k, (∀ y0 y1 y2 y3 y4 y5 y6 y7 y8 y9 y10 y11, LeO (hinterlandref10_Validate.j0 k y0 y1 y2 y3 y4 y5 y6 y7 y8 y9 y10 y11) (hinterlandref10_Validate.j0 (k + 1) y0 y1 y2 y3 y4 y5 y6 y7 y8 y9 y10 y11)) ∧ (∀ y0, LeO (hinterlandref10_Validate.j1 k y0) (hinterlandref10_Validate.j1 (k + 1) y0))
  | 0 => ⟨fun _ _ _ _ _ _ _ _ _ _ _ _ r h => by simp [hinterlandref10_Validate.j0] at h, fun _ r h => by simp [hinterlandref10_Validate.j1] at h⟩
  | k + 1 => by
    obtain ⟨ih0, ih1⟩ := hinterlandref10_Validate.mono_l k
    refine ⟨?_, ?_⟩
    · intro y0 y1 y2 y3 y4 y5 y6 y7 y8 y9 y10 y11
      unfold hinterlandref10_Validate.j0
      repeat' first
      | (with_reducible first | exact ih0 _ _ _ _ _ _ _ _ _ _ _ _ | exact ih1 _ | exact hinterlandref10_ValidateKinds.mono _ _ | exact hinterlandref10_counts.mono _ _ _ _ | exact LeO.refl _ | exact LeO.none _ | refine LeO.ite ?_ ?_ | refine LeO.bind ?_ (fun _ => ?_))
      | exact ih0 _ _ _ _ _ _ _ _ _ _ _ _
      | exact ih1 _
      | exact hinterlandref10_ValidateKinds.mono _ _
      | exact hinterlandref10_counts.mono _ _ _ _
      | exact LeO.none _
      | refine LeO.ite ?_ ?_
      | refine LeO.bind ?_ (fun _ => ?_)
    · intro y0
      unfold hinterlandref10_Validate.j1
      repeat' first
      | (with_reducible first | exact ih0 _ _ _ _ _ _ _ _ _ _ _ _ | exact ih1 _ | exact hinterlandref10_ValidateKinds.mono _ _ | exact hinterlandref10_counts.mono _ _ _ _ | exact LeO.refl _ | exact LeO.none _ | refine LeO.ite ?_ ?_ | refine LeO.bind ?_ (fun _ => ?_))
      | exact ih0 _ _ _ _ _ _ _ _ _ _ _ _
      | exact ih1 _
      | exact hinterlandref10_ValidateKinds.mono _ _
      | exact hinterlandref10_counts.mono _ _ _ _
      | exact LeO.none _
      | refine LeO.ite ?_ ?_
      | refine LeO.bind ?_ (fun _ => ?_)
theorem hinterlandref10_Validate.mono : ∀ a0 a1 a2 a3 a4 a5 a6 a7 a8 a9 a10 k, LeO (hinterlandref10_Validate.f k a0 a1 a2 a3 a4 a5 a6 a7 a8 a9 a10) (hinterlandref10_Validate.f (k + 1) a0 a1 a2 a3 a4 a5 a6 a7 a8 a9 a10) := by
  intro a0 a1 a2 a3 a4 a5 a6 a7 a8 a9 a10 k
  obtain ⟨ih0, ih1⟩ := hinterlandref10_Validate.mono_l k
  unfold hinterlandref10_Validate.f
  repeat' first
      | (with_reducible first | exact ih0 _ _ _ _ _ _ _ _ _ _ _ _ | exact ih1 _ | exact hinterlandref10_ValidateKinds.mono _ _ | exact hinterlandref10_counts.mono _ _ _ _ | exact LeO.refl _ | exact LeO.none _ | refine LeO.ite ?_ ?_ | refine LeO.bind ?_ (fun _ => ?_))
      | exact ih0 _ _ _ _ _ _ _ _ _ _ _ _
      | exact ih1 _
      | exact hinterlandref10_ValidateKinds.mono _ _
      | exact hinterlandref10_counts.mono _ _ _ _
      | exact LeO.none _
      | refine LeO.ite ?_ ?_
      | refine LeO.bind ?_ (fun _ => ?_)
set_option maxHeartbeats 8000000 in
set_option maxRecDepth 100000 in
theorem hinterlandref10_Validate.calls (k : Nat) (A0 : Option Addr) (c0 : Nat) (l0 : List (S39)) (a1_0 : Int) (a1_1 : Int) (a1_2 : Int) (A1_3 : Option Addr) (c1_3 : Nat) (l1_3 : List Int) (A1_4 : Option Addr) (c1_4 : Nat) (l1_4 : List Int) (A1_5 : Option Addr) (c1_5 : Nat) (l1_5 : List Int) (A1_6 : Option Addr) (c1_6 : Nat) (l1_6 : List Int) (a1_7 : Int) (a1_8 : Int) (a1_9 : Bool) (r : Int) (w : World) (hr0 : Kd.C k39 w A0 l0.length l0) (hc0 : l0.length ≤ c0) (hr1_3 : Kd.C (Kd.int .i64) w A1_3 l1_3.length l1_3) (hc1_3 : l1_3.length ≤ c1_3) (hr1_4 : Kd.C (Kd.int .i64) w A1_4 l1_4.length l1_4) (hc1_4 : l1_4.length ≤ c1_4) (hr1_5 : Kd.C (Kd.int .i64) w A1_5 l1_5.length l1_5) (hc1_5 : l1_5.length ≤ c1_5) (hr1_6 : Kd.C (Kd.int .i64) w A1_6 l1_6.length l1_6) (hc1_6 : l1_6.length ≤ c1_6) (h : hinterlandref10_Validate.f k l0 a1_0 a1_1 a1_2 l1_3 l1_4 l1_5 l1_6 a1_7 a1_8 a1_9 = some r) :
    Calls Try.prog 16 #[.slice A0 l0.length c0, .agg #[.int .i64 a1_0, .int .i64 a1_1, .int .i64 a1_2, .slice A1_3 l1_3.length c1_3, .slice A1_4 l1_4.length c1_4, .slice A1_5 l1_5.length c1_5, .slice A1_6 l1_6.length c1_6, .int .i64 a1_7, .int .i64 a1_8, .bool a1_9]] w fun e w' => e = .returned (.int .i64 r) ∧ Below w.heap.size w w' := by
 have hu25 := Try.underlying25
 have HR0 := Aside0.mk hr0
 have HC0 := Aside0.mk hc0
 clear hr0 hc0
 have HR1_3 := Aside0.mk hr1_3
 have HC1_3 := Aside0.mk hc1_3
 clear hr1_3 hc1_3
 have HR1_4 := Aside0.mk hr1_4
 have HC1_4 := Aside0.mk hc1_4
 clear hr1_4 hc1_4
 have HR1_5 := Aside0.mk hr1_5
 have HC1_5 := Aside0.mk hc1_5
 clear hr1_5 hc1_5
 have HR1_6 := Aside0.mk hr1_6
 have HC1_6 := Aside0.mk hc1_6
 clear hr1_6 hc1_6
 have HB := Aside0.mk (Below.refl w.heap.size w)
 have H : ((hinterlandref10_ValidateKinds.f k l0).bind fun t269 => (if t269 = 0 then (if a1_0 < 0 then (hinterlandref10_Validate.j0 k l0 true a1_0 a1_1 a1_2 l1_3 l1_4 l1_5 l1_6 a1_7 a1_8 a1_9) else (hinterlandref10_Validate.j0 k l0 (decide (a1_0 ≥ (l0.length : Int))) a1_0 a1_1 a1_2 l1_3 l1_4 l1_5 l1_6 a1_7 a1_8 a1_9)) else (some t269))) = some r := h
 clear h
 replace H := Option.bind_eq_some_iff.mp H
 obtain ⟨t269, A30, H⟩ := H
 replace H : (if t269 = 0 then (if a1_0 < 0 then (hinterlandref10_Validate.j0 k l0 true a1_0 a1_1 a1_2 l1_3 l1_4 l1_5 l1_6 a1_7 a1_8 a1_9) else (hinterlandref10_Validate.j0 k l0 (decide (a1_0 ≥ (l0.length : Int))) a1_0 a1_1 a1_2 l1_3 l1_4 l1_5 l1_6 a1_7 a1_8 a1_9)) else (some t269)) = some r := H
 have A3 := Aside0.mk A30
 clear A30
 by_cases c4 : t269 = 0
 ·rw [if_pos c4] at H
  have c4b0 : (t269 == 0) = true := beq_iff_eq.mpr c4
  have c4b1 : (t269 != 0) = false := bne_eq_false_iff_eq.mpr c4
  clear c4
  have HC5 := Aside0.mk H
  clear H
  go_enter Try.func16, Try.ntmps16
  go_upto_region 4 with (first | ((with_reducible refine gate_dst (N := 3) rfl ?_); (try (refine gate_guard (by rfl) ?_; dsimp only)); refine box_event ?hg (N := 3) ?hd (cs := #[.int .i64 a1_0, .int .i64 a1_1, .int .i64 a1_2, .slice A1_3 l1_3.length c1_3, .slice A1_4 l1_4.length c1_4, .slice A1_5 l1_5.length c1_5, .slice A1_6 l1_6.length c1_6, .int .i64 a1_7, .int .i64 a1_8, .bool a1_9]) (t := 25) ?hr ?_; (case hd => rfl); (case hg => rfl); (case hr => first | (go_simp; done) | (go_simp; rfl)); intro gb268 hg w6 hbox hb; have BK268 := Aside0.mk (hbox); have GW268 := Aside0.mk ((dS_ hg (dL_ HB) : w.heap.size ≤ gb268)); have GE268 := Aside0.mk ((dS_ hg (dL_ HB) : w.heap.size ≤ gb268)); replace HB := Aside0.mk (below_step (dL_ HB) hb); clear hb hbox hg) | ((with_reducible refine gate_callee (f := 35) rfl ?_); refine goesL_ (some 8) rfl rfl Try.func35 (by kernel_rfl) rfl #[.slice A0 l0.length c0] rfl tA_ ?_; (with_reducible refine (hinterlandref10_ValidateKinds.calls k _ _ l0 t269 _ ?side1 ?side2 A3.out).mono ?_); (case side1 => exact dC_ HR0 HB); (case side2 => exact HC0.out); rintro e w7 ⟨rfl, hb⟩; refine ⟨_, rfl, ?_⟩; replace BK268 := Aside0.mk (blk_below (g := gb268) (o := .cells #[.int .i64 a1_0, .int .i64 a1_1, .int .i64 a1_2, .slice A1_3 l1_3.length c1_3, .slice A1_4 l1_4.length c1_4, .slice A1_5 l1_5.length c1_5, .slice A1_6 l1_6.length c1_6, .int .i64 a1_7, .int .i64 a1_8, .bool a1_9] 25 (0, 0)) (dB_ BK268) hb); replace HB := Aside0.mk (below_step (dL1_ HB GE268) hb)))
  (try simp only [Act.put, List.setIfInBounds_toArray, List.set_cons_zero, List.set_cons_succ])
  go_cut [21] (fun v21 wc => ∃ (kq : Nat) (x21_4 : Bool), v21 = .bool x21_4 ∧ Aside0 (hinterlandref10_Validate.j0 kq l0 x21_4 a1_0 a1_1 a1_2 l1_3 l1_4 l1_5 l1_6 a1_7 a1_8 a1_9 = some r) ∧ Aside0 (kq ≤ k) ∧ Aside0 (wc.heap[gb268]? = some (.cells #[.int .i64 a1_0, .int .i64 a1_1, .int .i64 a1_2, (.slice A1_3 l1_3.length c1_3), (.slice A1_4 l1_4.length c1_4), (.slice A1_5 l1_5.length c1_5), (.slice A1_6 l1_6.length c1_6), .int .i64 a1_7, .int .i64 a1_8, .bool a1_9] 25 (0, 0))) ∧ Aside0 (Below w.heap.size w wc))
  case first =>
   have H := HC5.out
   clear HC5
   by_cases c8 : a1_0 < 0
   ·rw [if_pos c8] at H
    have c8b0 : decide (a1_0 < 0) = true := decide_eq_true c8
    clear c8
    (first | rw [c8b0] | (simp only [i64_w, i32_w]; rw [c8b0]) | skip)
    have H' := Aside0.mk H
    clear H
    obtain ⟨hcz9_0, hcz9_1, hcz9_2, hcz9_3, hcz9_4, hcz9_5, hcz9_6, hcz9_7, hcz9_8, hcz9_9, hfz9_0, hfz9_1, hfz9_2, hfz9_3, hfz9_4, hfz9_5, hfz9_6, hfz9_7, hfz9_8, hfz9_9⟩ := cs10_ BK268.out
    go_wp2
    go_meet
    case rel => exact ⟨_, (true), tS_, H', ⟨by first | omega | exact Nat.le_refl _⟩, ⟨dB_ BK268⟩, ⟨dL1_ HB GE268⟩⟩
   ·rw [if_neg c8] at H
    have c8b0 : decide (a1_0 < 0) = false := decide_eq_false c8
    clear c8
    (first | rw [c8b0] | (simp only [i64_w, i32_w]; rw [c8b0]) | skip)
    have H' := Aside0.mk H
    clear H
    obtain ⟨hcz10_0, hcz10_1, hcz10_2, hcz10_3, hcz10_4, hcz10_5, hcz10_6, hcz10_7, hcz10_8, hcz10_9, hfz10_0, hfz10_1, hfz10_2, hfz10_3, hfz10_4, hfz10_5, hfz10_6, hfz10_7, hfz10_8, hfz10_9⟩ := cs10_ BK268.out
    go_wp2
    go_meet
    case rel => exact ⟨_, (decide (a1_0 ≥ (l0.length : Int))), tS_, H', ⟨by first | omega | exact Nat.le_refl _⟩, ⟨dB_ BK268⟩, ⟨dL1_ HB GE268⟩⟩
  case rest =>
   clear HC5
   try clear c4
   try clear c4b0
   try clear c4b1
   try clear c8
   obtain ⟨kq, x21_4, rfl, HA, HJ4, BK268, HB⟩ := hcut
   cases kq with
   | zero => exact absurd HA.out (by simp [hinterlandref10_Validate.j0])
   | succ kj4 =>
    have H := HA.out
    clear HA
    simp only [hinterlandref10_Validate.j0] at H
    by_cases c11 : x21_4 = true
    ·subst c11
     have H1 : (some 2) = some r := by rw [if_pos rfl] at H; exact H
     clear H
     have H := H1
     clear H1
     obtain rfl := Option.some.inj H
     go_wp2
     go_ret
     exact ⟨tE_, dL1_ HB GE268⟩
    ·replace c11 := Bool.eq_false_iff.mpr c11
     subst c11
     have H1 : (if 0 ≤ a1_0 then (if a1_0 < (l0.length : Int) then ((hinterlandref10_within.f a1_1 0 1000000).bind fun t271 => (if t271 = true then ((hinterlandref10_within.f a1_2 1 64).bind fun t272 => (if t272 = true then ((hinterlandref10_within.f a1_7 0 1000000).bind fun t273 => (if t273 = true then ((hinterlandref10_within.f a1_8 0 1000000).bind fun t274 => (if t274 = true then ((hinterlandref10_counts.f kj4 l1_3 (((rd_T39 l0 a1_0).f2).length : Int) 1000000).bind fun t275 => (if t275 = true then ((hinterlandref10_counts.f kj4 l1_4 (((rd_T39 l0 a1_0).f2).length : Int) 7).bind fun t276 => (if t276 = true then ((hinterlandref10_counts.f kj4 l1_5 (((rd_T39 l0 a1_0).f2).length : Int) 1000000).bind fun t277 => (if t277 = true then ((hinterlandref10_counts.f kj4 l1_6 (((rd_T39 l0 a1_0).f2).length : Int) 1000000).bind fun t278 => (hinterlandref10_Validate.j1 kj4 (!t278))) else (hinterlandref10_Validate.j1 kj4 true))) else (hinterlandref10_Validate.j1 kj4 true))) else (hinterlandref10_Validate.j1 kj4 true))) else (hinterlandref10_Validate.j1 kj4 true))) else (hinterlandref10_Validate.j1 kj4 true))) else (hinterlandref10_Validate.j1 kj4 true))) else (hinterlandref10_Validate.j1 kj4 true))) else (none)) else (none)) = some r := by rw [if_neg (show ¬ (false = true) by decide)] at H; exact H
     clear H
     have H := H1
     clear H1
     by_cases c12 : 0 ≤ a1_0
     ·rw [if_pos c12] at H
      have c12b0 : decide (0 ≤ a1_0) = true := decide_eq_true c12
      clear c12
      by_cases c13 : a1_0 < (l0.length : Int)
      ·rw [if_pos c13] at H
       have c13b0 : decide (a1_0 < (l0.length : Int)) = true := decide_eq_true c13
       clear c13
       have HC14 := Aside0.mk H
       clear H
       obtain ⟨hcz15_0, hcz15_1, hcz15_2, hcz15_3, hcz15_4, hcz15_5, hcz15_6, hcz15_7, hcz15_8, hcz15_9, hfz15_0, hfz15_1, hfz15_2, hfz15_3, hfz15_4, hfz15_5, hfz15_6, hfz15_7, hfz15_8, hfz15_9⟩ := cs10_ BK268.out
       have p270 : 0 ≤ (a1_0 : Int) := of_decide_eq_true tW_
       have q270 : a1_0 < (l0.length : Int) := of_decide_eq_true tW_
       obtain ⟨ad270, A270_1, c270_1, A270_2, c270_2, e270, hx270_0, hx270_1, hx270_2, hl270_1, hi270_1, hl270_2, hi270_2⟩ := at_T39 HR0.out a1_0 p270 q270
       cases e270
       replace hx270_0 := bc_ HB hx270_0
       replace hx270_1 := bc_ HB hx270_1
       replace hx270_2 := bc_ HB hx270_2
       have HR270_1 := Aside0.mk hi270_1
       have HC270_1 := Aside0.mk hl270_1
       clear hi270_1 hl270_1
       have HR270_2 := Aside0.mk hi270_2
       have HC270_2 := Aside0.mk hl270_2
       clear hi270_2 hl270_2
       replace p270 := eq_true p270
       replace q270 := eq_true q270
       go_upto_region 7 with (fail)
       go_cut [78] (fun v78 wc => ∃ (kq : Nat) (x78_13 : Bool), v78 = .bool x78_13 ∧ Aside0 (hinterlandref10_Validate.j1 kq x78_13 = some r) ∧ Aside0 (kq ≤ kj4) ∧ Aside0 (wc.heap[gb268]? = some (.cells #[.int .i64 a1_0, .int .i64 a1_1, .int .i64 a1_2, (.slice A1_3 l1_3.length c1_3), (.slice A1_4 l1_4.length c1_4), (.slice A1_5 l1_5.length c1_5), (.slice A1_6 l1_6.length c1_6), .int .i64 a1_7, .int .i64 a1_8, .bool a1_9] 25 (0, 0))) ∧ Aside0 (Below w.heap.size w wc))
       case first =>
        have H := HC14.out
        clear HC14
        replace H := Option.bind_eq_some_iff.mp H
        obtain ⟨t271, A160, H⟩ := H
        replace H : (if t271 = true then ((hinterlandref10_within.f a1_2 1 64).bind fun t272 => (if t272 = true then ((hinterlandref10_within.f a1_7 0 1000000).bind fun t273 => (if t273 = true then ((hinterlandref10_within.f a1_8 0 1000000).bind fun t274 => (if t274 = true then ((hinterlandref10_counts.f kj4 l1_3 (((rd_T39 l0 a1_0).f2).length : Int) 1000000).bind fun t275 => (if t275 = true then ((hinterlandref10_counts.f kj4 l1_4 (((rd_T39 l0 a1_0).f2).length : Int) 7).bind fun t276 => (if t276 = true then ((hinterlandref10_counts.f kj4 l1_5 (((rd_T39 l0 a1_0).f2).length : Int) 1000000).bind fun t277 => (if t277 = true then ((hinterlandref10_counts.f kj4 l1_6 (((rd_T39 l0 a1_0).f2).length : Int) 1000000).bind fun t278 => (hinterlandref10_Validate.j1 kj4 (!t278))) else (hinterlandref10_Validate.j1 kj4 true))) else (hinterlandref10_Validate.j1 kj4 true))) else (hinterlandref10_Validate.j1 kj4 true))) else (hinterlandref10_Validate.j1 kj4 true))) else (hinterlandref10_Validate.j1 kj4 true))) else (hinterlandref10_Validate.j1 kj4 true))) else (hinterlandref10_Validate.j1 kj4 true)) = some r := H
        have A16 := Aside0.mk A160
        clear A160
        by_cases c17 : t271 = true
        ·subst c17
         have H1 : ((hinterlandref10_within.f a1_2 1 64).bind fun t272 => (if t272 = true then ((hinterlandref10_within.f a1_7 0 1000000).bind fun t273 => (if t273 = true then ((hinterlandref10_within.f a1_8 0 1000000).bind fun t274 => (if t274 = true then ((hinterlandref10_counts.f kj4 l1_3 (((rd_T39 l0 a1_0).f2).length : Int) 1000000).bind fun t275 => (if t275 = true then ((hinterlandref10_counts.f kj4 l1_4 (((rd_T39 l0 a1_0).f2).length : Int) 7).bind fun t276 => (if t276 = true then ((hinterlandref10_counts.f kj4 l1_5 (((rd_T39 l0 a1_0).f2).length : Int) 1000000).bind fun t277 => (if t277 = true then ((hinterlandref10_counts.f kj4 l1_6 (((rd_T39 l0 a1_0).f2).length : Int) 1000000).bind fun t278 => (hinterlandref10_Validate.j1 kj4 (!t278))) else (hinterlandref10_Validate.j1 kj4 true))) else (hinterlandref10_Validate.j1 kj4 true))) else (hinterlandref10_Validate.j1 kj4 true))) else (hinterlandref10_Validate.j1 kj4 true))) else (hinterlandref10_Validate.j1 kj4 true))) else (hinterlandref10_Validate.j1 kj4 true))) = some r := by rw [if_pos rfl] at H; exact H
         clear H
         have H := H1
         clear H1
         replace H := Option.bind_eq_some_iff.mp H
         obtain ⟨t272, A180, H⟩ := H
         replace H : (if t272 = true then ((hinterlandref10_within.f a1_7 0 1000000).bind fun t273 => (if t273 = true then ((hinterlandref10_within.f a1_8 0 1000000).bind fun t274 => (if t274 = true then ((hinterlandref10_counts.f kj4 l1_3 (((rd_T39 l0 a1_0).f2).length : Int) 1000000).bind fun t275 => (if t275 = true then ((hinterlandref10_counts.f kj4 l1_4 (((rd_T39 l0 a1_0).f2).length : Int) 7).bind fun t276 => (if t276 = true then ((hinterlandref10_counts.f kj4 l1_5 (((rd_T39 l0 a1_0).f2).length : Int) 1000000).bind fun t277 => (if t277 = true then ((hinterlandref10_counts.f kj4 l1_6 (((rd_T39 l0 a1_0).f2).length : Int) 1000000).bind fun t278 => (hinterlandref10_Validate.j1 kj4 (!t278))) else (hinterlandref10_Validate.j1 kj4 true))) else (hinterlandref10_Validate.j1 kj4 true))) else (hinterlandref10_Validate.j1 kj4 true))) else (hinterlandref10_Validate.j1 kj4 true))) else (hinterlandref10_Validate.j1 kj4 true))) else (hinterlandref10_Validate.j1 kj4 true)) = some r := H
         have A18 := Aside0.mk A180
         clear A180
         by_cases c19 : t272 = true
         ·subst c19
          have H1 : ((hinterlandref10_within.f a1_7 0 1000000).bind fun t273 => (if t273 = true then ((hinterlandref10_within.f a1_8 0 1000000).bind fun t274 => (if t274 = true then ((hinterlandref10_counts.f kj4 l1_3 (((rd_T39 l0 a1_0).f2).length : Int) 1000000).bind fun t275 => (if t275 = true then ((hinterlandref10_counts.f kj4 l1_4 (((rd_T39 l0 a1_0).f2).length : Int) 7).bind fun t276 => (if t276 = true then ((hinterlandref10_counts.f kj4 l1_5 (((rd_T39 l0 a1_0).f2).length : Int) 1000000).bind fun t277 => (if t277 = true then ((hinterlandref10_counts.f kj4 l1_6 (((rd_T39 l0 a1_0).f2).length : Int) 1000000).bind fun t278 => (hinterlandref10_Validate.j1 kj4 (!t278))) else (hinterlandref10_Validate.j1 kj4 true))) else (hinterlandref10_Validate.j1 kj4 true))) else (hinterlandref10_Validate.j1 kj4 true))) else (hinterlandref10_Validate.j1 kj4 true))) else (hinterlandref10_Validate.j1 kj4 true))) = some r := by rw [if_pos rfl] at H; exact H
          clear H
          have H := H1
          clear H1
          replace H := Option.bind_eq_some_iff.mp H
          obtain ⟨t273, A200, H⟩ := H
          replace H : (if t273 = true then ((hinterlandref10_within.f a1_8 0 1000000).bind fun t274 => (if t274 = true then ((hinterlandref10_counts.f kj4 l1_3 (((rd_T39 l0 a1_0).f2).length : Int) 1000000).bind fun t275 => (if t275 = true then ((hinterlandref10_counts.f kj4 l1_4 (((rd_T39 l0 a1_0).f2).length : Int) 7).bind fun t276 => (if t276 = true then ((hinterlandref10_counts.f kj4 l1_5 (((rd_T39 l0 a1_0).f2).length : Int) 1000000).bind fun t277 => (if t277 = true then ((hinterlandref10_counts.f kj4 l1_6 (((rd_T39 l0 a1_0).f2).length : Int) 1000000).bind fun t278 => (hinterlandref10_Validate.j1 kj4 (!t278))) else (hinterlandref10_Validate.j1 kj4 true))) else (hinterlandref10_Validate.j1 kj4 true))) else (hinterlandref10_Validate.j1 kj4 true))) else (hinterlandref10_Validate.j1 kj4 true))) else (hinterlandref10_Validate.j1 kj4 true)) = some r := H
          have A20 := Aside0.mk A200
          clear A200
          by_cases c21 : t273 = true
          ·subst c21
           have H1 : ((hinterlandref10_within.f a1_8 0 1000000).bind fun t274 => (if t274 = true then ((hinterlandref10_counts.f kj4 l1_3 (((rd_T39 l0 a1_0).f2).length : Int) 1000000).bind fun t275 => (if t275 = true then ((hinterlandref10_counts.f kj4 l1_4 (((rd_T39 l0 a1_0).f2).length : Int) 7).bind fun t276 => (if t276 = true then ((hinterlandref10_counts.f kj4 l1_5 (((rd_T39 l0 a1_0).f2).length : Int) 1000000).bind fun t277 => (if t277 = true then ((hinterlandref10_counts.f kj4 l1_6 (((rd_T39 l0 a1_0).f2).length : Int) 1000000).bind fun t278 => (hinterlandref10_Validate.j1 kj4 (!t278))) else (hinterlandref10_Validate.j1 kj4 true))) else (hinterlandref10_Validate.j1 kj4 true))) else (hinterlandref10_Validate.j1 kj4 true))) else (hinterlandref10_Validate.j1 kj4 true))) = some r := by rw [if_pos rfl] at H; exact H
           clear H
           have H := H1
           clear H1
           replace H := Option.bind_eq_some_iff.mp H
           obtain ⟨t274, A220, H⟩ := H
           replace H : (if t274 = true then ((hinterlandref10_counts.f kj4 l1_3 (((rd_T39 l0 a1_0).f2).length : Int) 1000000).bind fun t275 => (if t275 = true then ((hinterlandref10_counts.f kj4 l1_4 (((rd_T39 l0 a1_0).f2).length : Int) 7).bind fun t276 => (if t276 = true then ((hinterlandref10_counts.f kj4 l1_5 (((rd_T39 l0 a1_0).f2).length : Int) 1000000).bind fun t277 => (if t277 = true then ((hinterlandref10_counts.f kj4 l1_6 (((rd_T39 l0 a1_0).f2).length : Int) 1000000).bind fun t278 => (hinterlandref10_Validate.j1 kj4 (!t278))) else (hinterlandref10_Validate.j1 kj4 true))) else (hinterlandref10_Validate.j1 kj4 true))) else (hinterlandref10_Validate.j1 kj4 true))) else (hinterlandref10_Validate.j1 kj4 true)) = some r := H
           have A22 := Aside0.mk A220
           clear A220
           by_cases c23 : t274 = true
           ·subst c23
            have H1 : ((hinterlandref10_counts.f kj4 l1_3 (((rd_T39 l0 a1_0).f2).length : Int) 1000000).bind fun t275 => (if t275 = true then ((hinterlandref10_counts.f kj4 l1_4 (((rd_T39 l0 a1_0).f2).length : Int) 7).bind fun t276 => (if t276 = true then ((hinterlandref10_counts.f kj4 l1_5 (((rd_T39 l0 a1_0).f2).length : Int) 1000000).bind fun t277 => (if t277 = true then ((hinterlandref10_counts.f kj4 l1_6 (((rd_T39 l0 a1_0).f2).length : Int) 1000000).bind fun t278 => (hinterlandref10_Validate.j1 kj4 (!t278))) else (hinterlandref10_Validate.j1 kj4 true))) else (hinterlandref10_Validate.j1 kj4 true))) else (hinterlandref10_Validate.j1 kj4 true))) = some r := by rw [if_pos rfl] at H; exact H
            clear H
            have H := H1
            clear H1
            replace H := Option.bind_eq_some_iff.mp H
            obtain ⟨t275, A240, H⟩ := H
            replace H : (if t275 = true then ((hinterlandref10_counts.f kj4 l1_4 (((rd_T39 l0 a1_0).f2).length : Int) 7).bind fun t276 => (if t276 = true then ((hinterlandref10_counts.f kj4 l1_5 (((rd_T39 l0 a1_0).f2).length : Int) 1000000).bind fun t277 => (if t277 = true then ((hinterlandref10_counts.f kj4 l1_6 (((rd_T39 l0 a1_0).f2).length : Int) 1000000).bind fun t278 => (hinterlandref10_Validate.j1 kj4 (!t278))) else (hinterlandref10_Validate.j1 kj4 true))) else (hinterlandref10_Validate.j1 kj4 true))) else (hinterlandref10_Validate.j1 kj4 true)) = some r := H
            have A24 := Aside0.mk A240
            clear A240
            by_cases c25 : t275 = true
            ·subst c25
             have H1 : ((hinterlandref10_counts.f kj4 l1_4 (((rd_T39 l0 a1_0).f2).length : Int) 7).bind fun t276 => (if t276 = true then ((hinterlandref10_counts.f kj4 l1_5 (((rd_T39 l0 a1_0).f2).length : Int) 1000000).bind fun t277 => (if t277 = true then ((hinterlandref10_counts.f kj4 l1_6 (((rd_T39 l0 a1_0).f2).length : Int) 1000000).bind fun t278 => (hinterlandref10_Validate.j1 kj4 (!t278))) else (hinterlandref10_Validate.j1 kj4 true))) else (hinterlandref10_Validate.j1 kj4 true))) = some r := by rw [if_pos rfl] at H; exact H
             clear H
             have H := H1
             clear H1
             replace H := Option.bind_eq_some_iff.mp H
             obtain ⟨t276, A260, H⟩ := H
             replace H : (if t276 = true then ((hinterlandref10_counts.f kj4 l1_5 (((rd_T39 l0 a1_0).f2).length : Int) 1000000).bind fun t277 => (if t277 = true then ((hinterlandref10_counts.f kj4 l1_6 (((rd_T39 l0 a1_0).f2).length : Int) 1000000).bind fun t278 => (hinterlandref10_Validate.j1 kj4 (!t278))) else (hinterlandref10_Validate.j1 kj4 true))) else (hinterlandref10_Validate.j1 kj4 true)) = some r := H
             have A26 := Aside0.mk A260
             clear A260
             by_cases c27 : t276 = true
             ·subst c27
              have H1 : ((hinterlandref10_counts.f kj4 l1_5 (((rd_T39 l0 a1_0).f2).length : Int) 1000000).bind fun t277 => (if t277 = true then ((hinterlandref10_counts.f kj4 l1_6 (((rd_T39 l0 a1_0).f2).length : Int) 1000000).bind fun t278 => (hinterlandref10_Validate.j1 kj4 (!t278))) else (hinterlandref10_Validate.j1 kj4 true))) = some r := by rw [if_pos rfl] at H; exact H
              clear H
              have H := H1
              clear H1
              replace H := Option.bind_eq_some_iff.mp H
              obtain ⟨t277, A280, H⟩ := H
              replace H : (if t277 = true then ((hinterlandref10_counts.f kj4 l1_6 (((rd_T39 l0 a1_0).f2).length : Int) 1000000).bind fun t278 => (hinterlandref10_Validate.j1 kj4 (!t278))) else (hinterlandref10_Validate.j1 kj4 true)) = some r := H
              have A28 := Aside0.mk A280
              clear A280
              by_cases c29 : t277 = true
              ·subst c29
               have H1 : ((hinterlandref10_counts.f kj4 l1_6 (((rd_T39 l0 a1_0).f2).length : Int) 1000000).bind fun t278 => (hinterlandref10_Validate.j1 kj4 (!t278))) = some r := by rw [if_pos rfl] at H; exact H
               clear H
               have H := H1
               clear H1
               replace H := Option.bind_eq_some_iff.mp H
               obtain ⟨t278, A300, H⟩ := H
               replace H : (hinterlandref10_Validate.j1 kj4 (!t278)) = some r := H
               have A30 := Aside0.mk A300
               clear A300
               have H' := Aside0.mk H
               clear H
               obtain ⟨hcz31_0, hcz31_1, hcz31_2, hcz31_3, hcz31_4, hcz31_5, hcz31_6, hcz31_7, hcz31_8, hcz31_9, hfz31_0, hfz31_1, hfz31_2, hfz31_3, hfz31_4, hfz31_5, hfz31_6, hfz31_7, hfz31_8, hfz31_9⟩ := cs10_ BK268.out
               go_wp2_with (first | ((with_reducible refine gate_callee (f := 36) rfl ?_); refine goesL_ (some 31) rfl rfl Try.func36 (by kernel_rfl) rfl #[.int .i64 a1_1, .int .i64 0, .int .i64 1000000] rfl tA_ ?_; (with_reducible refine (hinterlandref10_within.calls a1_1 0 1000000 true _ A16.out).mono ?_); rintro e w' ⟨rfl, ⟨nd, rfl⟩⟩; refine ⟨_, rfl, ?_⟩) | (go_at_call 36; (with_reducible refine (hinterlandref10_within.calls a1_2 1 64 true _ A18.out).mono ?_); rintro e w' ⟨rfl, ⟨nd, rfl⟩⟩) | (go_at_call 36; (with_reducible refine (hinterlandref10_within.calls a1_7 0 1000000 true _ A20.out).mono ?_); rintro e w' ⟨rfl, ⟨nd, rfl⟩⟩) | (go_at_call 36; (with_reducible refine (hinterlandref10_within.calls a1_8 0 1000000 true _ A22.out).mono ?_); rintro e w' ⟨rfl, ⟨nd, rfl⟩⟩) | (go_at_call 37; (with_reducible refine (hinterlandref10_counts.calls kj4 _ _ l1_3 (((rd_T39 l0 a1_0).f2).length : Int) 1000000 true _ ?side1 ?side2 A24.out).mono ?_); (case side1 => repeat (first | exact (Kd.C_below HR1_3.out (dL1_ HB GE268)) | (with_reducible refine Kd.C_alloc ?_ _) | (with_reducible refine Kd.C_drewN ?_ _) | (with_reducible refine Kd.C_drew ?_))); (case side2 => exact HC1_3.out); rintro e w' ⟨rfl, ⟨nd, rfl⟩⟩) | (go_at_call 37; (with_reducible refine (hinterlandref10_counts.calls kj4 _ _ l1_4 (((rd_T39 l0 a1_0).f2).length : Int) 7 true _ ?side1 ?side2 A26.out).mono ?_); (case side1 => repeat (first | exact (Kd.C_below HR1_4.out (dL1_ HB GE268)) | (with_reducible refine Kd.C_alloc ?_ _) | (with_reducible refine Kd.C_drewN ?_ _) | (with_reducible refine Kd.C_drew ?_))); (case side2 => exact HC1_4.out); rintro e w' ⟨rfl, ⟨nd, rfl⟩⟩) | (go_at_call 37; (with_reducible refine (hinterlandref10_counts.calls kj4 _ _ l1_5 (((rd_T39 l0 a1_0).f2).length : Int) 1000000 true _ ?side1 ?side2 A28.out).mono ?_); (case side1 => repeat (first | exact (Kd.C_below HR1_5.out (dL1_ HB GE268)) | (with_reducible refine Kd.C_alloc ?_ _) | (with_reducible refine Kd.C_drewN ?_ _) | (with_reducible refine Kd.C_drew ?_))); (case side2 => exact HC1_5.out); rintro e w' ⟨rfl, ⟨nd, rfl⟩⟩) | (go_at_call 37; (with_reducible refine (hinterlandref10_counts.calls kj4 _ _ l1_6 (((rd_T39 l0 a1_0).f2).length : Int) 1000000 t278 _ ?side1 ?side2 A30.out).mono ?_); (case side1 => repeat (first | exact (Kd.C_below HR1_6.out (dL1_ HB GE268)) | (with_reducible refine Kd.C_alloc ?_ _) | (with_reducible refine Kd.C_drewN ?_ _) | (with_reducible refine Kd.C_drew ?_))); (case side2 => exact HC1_6.out); rintro e w' ⟨rfl, ⟨nd, rfl⟩⟩))
               go_meet
               case rel => exact ⟨_, (!t278), tS_, H', ⟨by have := HJ4.out; first | omega | exact Nat.le_refl _⟩, ⟨dB_ BK268⟩, ⟨dL1_ HB GE268⟩⟩
              ·replace c29 := Bool.eq_false_iff.mpr c29
               subst c29
               have H1 : (hinterlandref10_Validate.j1 kj4 true) = some r := by rw [if_neg (show ¬ (false = true) by decide)] at H; exact H
               clear H
               have H := H1
               clear H1
               have H' := Aside0.mk H
               clear H
               obtain ⟨hcz32_0, hcz32_1, hcz32_2, hcz32_3, hcz32_4, hcz32_5, hcz32_6, hcz32_7, hcz32_8, hcz32_9, hfz32_0, hfz32_1, hfz32_2, hfz32_3, hfz32_4, hfz32_5, hfz32_6, hfz32_7, hfz32_8, hfz32_9⟩ := cs10_ BK268.out
               go_wp2_with (first | ((with_reducible refine gate_callee (f := 36) rfl ?_); refine goesL_ (some 31) rfl rfl Try.func36 (by kernel_rfl) rfl #[.int .i64 a1_1, .int .i64 0, .int .i64 1000000] rfl tA_ ?_; (with_reducible refine (hinterlandref10_within.calls a1_1 0 1000000 true _ A16.out).mono ?_); rintro e w' ⟨rfl, ⟨nd, rfl⟩⟩; refine ⟨_, rfl, ?_⟩) | (go_at_call 36; (with_reducible refine (hinterlandref10_within.calls a1_2 1 64 true _ A18.out).mono ?_); rintro e w' ⟨rfl, ⟨nd, rfl⟩⟩) | (go_at_call 36; (with_reducible refine (hinterlandref10_within.calls a1_7 0 1000000 true _ A20.out).mono ?_); rintro e w' ⟨rfl, ⟨nd, rfl⟩⟩) | (go_at_call 36; (with_reducible refine (hinterlandref10_within.calls a1_8 0 1000000 true _ A22.out).mono ?_); rintro e w' ⟨rfl, ⟨nd, rfl⟩⟩) | (go_at_call 37; (with_reducible refine (hinterlandref10_counts.calls kj4 _ _ l1_3 (((rd_T39 l0 a1_0).f2).length : Int) 1000000 true _ ?side1 ?side2 A24.out).mono ?_); (case side1 => repeat (first | exact (Kd.C_below HR1_3.out (dL1_ HB GE268)) | (with_reducible refine Kd.C_alloc ?_ _) | (with_reducible refine Kd.C_drewN ?_ _) | (with_reducible refine Kd.C_drew ?_))); (case side2 => exact HC1_3.out); rintro e w' ⟨rfl, ⟨nd, rfl⟩⟩) | (go_at_call 37; (with_reducible refine (hinterlandref10_counts.calls kj4 _ _ l1_4 (((rd_T39 l0 a1_0).f2).length : Int) 7 true _ ?side1 ?side2 A26.out).mono ?_); (case side1 => repeat (first | exact (Kd.C_below HR1_4.out (dL1_ HB GE268)) | (with_reducible refine Kd.C_alloc ?_ _) | (with_reducible refine Kd.C_drewN ?_ _) | (with_reducible refine Kd.C_drew ?_))); (case side2 => exact HC1_4.out); rintro e w' ⟨rfl, ⟨nd, rfl⟩⟩) | (go_at_call 37; (with_reducible refine (hinterlandref10_counts.calls kj4 _ _ l1_5 (((rd_T39 l0 a1_0).f2).length : Int) 1000000 false _ ?side1 ?side2 A28.out).mono ?_); (case side1 => repeat (first | exact (Kd.C_below HR1_5.out (dL1_ HB GE268)) | (with_reducible refine Kd.C_alloc ?_ _) | (with_reducible refine Kd.C_drewN ?_ _) | (with_reducible refine Kd.C_drew ?_))); (case side2 => exact HC1_5.out); rintro e w' ⟨rfl, ⟨nd, rfl⟩⟩))
               go_meet
               case rel => exact ⟨_, (true), tS_, H', ⟨by have := HJ4.out; first | omega | exact Nat.le_refl _⟩, ⟨dB_ BK268⟩, ⟨dL1_ HB GE268⟩⟩
             ·replace c27 := Bool.eq_false_iff.mpr c27
              subst c27
              have H1 : (hinterlandref10_Validate.j1 kj4 true) = some r := by rw [if_neg (show ¬ (false = true) by decide)] at H; exact H
              clear H
              have H := H1
              clear H1
              have H' := Aside0.mk H
              clear H
              obtain ⟨hcz33_0, hcz33_1, hcz33_2, hcz33_3, hcz33_4, hcz33_5, hcz33_6, hcz33_7, hcz33_8, hcz33_9, hfz33_0, hfz33_1, hfz33_2, hfz33_3, hfz33_4, hfz33_5, hfz33_6, hfz33_7, hfz33_8, hfz33_9⟩ := cs10_ BK268.out
              go_wp2_with (first | ((with_reducible refine gate_callee (f := 36) rfl ?_); refine goesL_ (some 31) rfl rfl Try.func36 (by kernel_rfl) rfl #[.int .i64 a1_1, .int .i64 0, .int .i64 1000000] rfl tA_ ?_; (with_reducible refine (hinterlandref10_within.calls a1_1 0 1000000 true _ A16.out).mono ?_); rintro e w' ⟨rfl, ⟨nd, rfl⟩⟩; refine ⟨_, rfl, ?_⟩) | (go_at_call 36; (with_reducible refine (hinterlandref10_within.calls a1_2 1 64 true _ A18.out).mono ?_); rintro e w' ⟨rfl, ⟨nd, rfl⟩⟩) | (go_at_call 36; (with_reducible refine (hinterlandref10_within.calls a1_7 0 1000000 true _ A20.out).mono ?_); rintro e w' ⟨rfl, ⟨nd, rfl⟩⟩) | (go_at_call 36; (with_reducible refine (hinterlandref10_within.calls a1_8 0 1000000 true _ A22.out).mono ?_); rintro e w' ⟨rfl, ⟨nd, rfl⟩⟩) | (go_at_call 37; (with_reducible refine (hinterlandref10_counts.calls kj4 _ _ l1_3 (((rd_T39 l0 a1_0).f2).length : Int) 1000000 true _ ?side1 ?side2 A24.out).mono ?_); (case side1 => repeat (first | exact (Kd.C_below HR1_3.out (dL1_ HB GE268)) | (with_reducible refine Kd.C_alloc ?_ _) | (with_reducible refine Kd.C_drewN ?_ _) | (with_reducible refine Kd.C_drew ?_))); (case side2 => exact HC1_3.out); rintro e w' ⟨rfl, ⟨nd, rfl⟩⟩) | (go_at_call 37; (with_reducible refine (hinterlandref10_counts.calls kj4 _ _ l1_4 (((rd_T39 l0 a1_0).f2).length : Int) 7 false _ ?side1 ?side2 A26.out).mono ?_); (case side1 => repeat (first | exact (Kd.C_below HR1_4.out (dL1_ HB GE268)) | (with_reducible refine Kd.C_alloc ?_ _) | (with_reducible refine Kd.C_drewN ?_ _) | (with_reducible refine Kd.C_drew ?_))); (case side2 => exact HC1_4.out); rintro e w' ⟨rfl, ⟨nd, rfl⟩⟩))
              go_meet
              case rel => exact ⟨_, (true), tS_, H', ⟨by have := HJ4.out; first | omega | exact Nat.le_refl _⟩, ⟨dB_ BK268⟩, ⟨dL1_ HB GE268⟩⟩
            ·replace c25 := Bool.eq_false_iff.mpr c25
             subst c25
             have H1 : (hinterlandref10_Validate.j1 kj4 true) = some r := by rw [if_neg (show ¬ (false = true) by decide)] at H; exact H
             clear H
             have H := H1
             clear H1
             have H' := Aside0.mk H
             clear H
             obtain ⟨hcz34_0, hcz34_1, hcz34_2, hcz34_3, hcz34_4, hcz34_5, hcz34_6, hcz34_7, hcz34_8, hcz34_9, hfz34_0, hfz34_1, hfz34_2, hfz34_3, hfz34_4, hfz34_5, hfz34_6, hfz34_7, hfz34_8, hfz34_9⟩ := cs10_ BK268.out
             go_wp2_with (first | ((with_reducible refine gate_callee (f := 36) rfl ?_); refine goesL_ (some 31) rfl rfl Try.func36 (by kernel_rfl) rfl #[.int .i64 a1_1, .int .i64 0, .int .i64 1000000] rfl tA_ ?_; (with_reducible refine (hinterlandref10_within.calls a1_1 0 1000000 true _ A16.out).mono ?_); rintro e w' ⟨rfl, ⟨nd, rfl⟩⟩; refine ⟨_, rfl, ?_⟩) | (go_at_call 36; (with_reducible refine (hinterlandref10_within.calls a1_2 1 64 true _ A18.out).mono ?_); rintro e w' ⟨rfl, ⟨nd, rfl⟩⟩) | (go_at_call 36; (with_reducible refine (hinterlandref10_within.calls a1_7 0 1000000 true _ A20.out).mono ?_); rintro e w' ⟨rfl, ⟨nd, rfl⟩⟩) | (go_at_call 36; (with_reducible refine (hinterlandref10_within.calls a1_8 0 1000000 true _ A22.out).mono ?_); rintro e w' ⟨rfl, ⟨nd, rfl⟩⟩) | (go_at_call 37; (with_reducible refine (hinterlandref10_counts.calls kj4 _ _ l1_3 (((rd_T39 l0 a1_0).f2).length : Int) 1000000 false _ ?side1 ?side2 A24.out).mono ?_); (case side1 => repeat (first | exact (Kd.C_below HR1_3.out (dL1_ HB GE268)) | (with_reducible refine Kd.C_alloc ?_ _) | (with_reducible refine Kd.C_drewN ?_ _) | (with_reducible refine Kd.C_drew ?_))); (case side2 => exact HC1_3.out); rintro e w' ⟨rfl, ⟨nd, rfl⟩⟩))
             go_meet
             case rel => exact ⟨_, (true), tS_, H', ⟨by have := HJ4.out; first | omega | exact Nat.le_refl _⟩, ⟨dB_ BK268⟩, ⟨dL1_ HB GE268⟩⟩
           ·replace c23 := Bool.eq_false_iff.mpr c23
            subst c23
            have H1 : (hinterlandref10_Validate.j1 kj4 true) = some r := by rw [if_neg (show ¬ (false = true) by decide)] at H; exact H
            clear H
            have H := H1
            clear H1
            have H' := Aside0.mk H
            clear H
            obtain ⟨hcz35_0, hcz35_1, hcz35_2, hcz35_3, hcz35_4, hcz35_5, hcz35_6, hcz35_7, hcz35_8, hcz35_9, hfz35_0, hfz35_1, hfz35_2, hfz35_3, hfz35_4, hfz35_5, hfz35_6, hfz35_7, hfz35_8, hfz35_9⟩ := cs10_ BK268.out
            go_wp2_with (first | ((with_reducible refine gate_callee (f := 36) rfl ?_); refine goesL_ (some 31) rfl rfl Try.func36 (by kernel_rfl) rfl #[.int .i64 a1_1, .int .i64 0, .int .i64 1000000] rfl tA_ ?_; (with_reducible refine (hinterlandref10_within.calls a1_1 0 1000000 true _ A16.out).mono ?_); rintro e w' ⟨rfl, ⟨nd, rfl⟩⟩; refine ⟨_, rfl, ?_⟩) | (go_at_call 36; (with_reducible refine (hinterlandref10_within.calls a1_2 1 64 true _ A18.out).mono ?_); rintro e w' ⟨rfl, ⟨nd, rfl⟩⟩) | (go_at_call 36; (with_reducible refine (hinterlandref10_within.calls a1_7 0 1000000 true _ A20.out).mono ?_); rintro e w' ⟨rfl, ⟨nd, rfl⟩⟩) | (go_at_call 36; (with_reducible refine (hinterlandref10_within.calls a1_8 0 1000000 false _ A22.out).mono ?_); rintro e w' ⟨rfl, ⟨nd, rfl⟩⟩))
            go_meet
            case rel => exact ⟨_, (true), tS_, H', ⟨by have := HJ4.out; first | omega | exact Nat.le_refl _⟩, ⟨dB_ BK268⟩, ⟨dL1_ HB GE268⟩⟩
          ·replace c21 := Bool.eq_false_iff.mpr c21
           subst c21
           have H1 : (hinterlandref10_Validate.j1 kj4 true) = some r := by rw [if_neg (show ¬ (false = true) by decide)] at H; exact H
           clear H
           have H := H1
           clear H1
           have H' := Aside0.mk H
           clear H
           obtain ⟨hcz36_0, hcz36_1, hcz36_2, hcz36_3, hcz36_4, hcz36_5, hcz36_6, hcz36_7, hcz36_8, hcz36_9, hfz36_0, hfz36_1, hfz36_2, hfz36_3, hfz36_4, hfz36_5, hfz36_6, hfz36_7, hfz36_8, hfz36_9⟩ := cs10_ BK268.out
           go_wp2_with (first | ((with_reducible refine gate_callee (f := 36) rfl ?_); refine goesL_ (some 31) rfl rfl Try.func36 (by kernel_rfl) rfl #[.int .i64 a1_1, .int .i64 0, .int .i64 1000000] rfl tA_ ?_; (with_reducible refine (hinterlandref10_within.calls a1_1 0 1000000 true _ A16.out).mono ?_); rintro e w' ⟨rfl, ⟨nd, rfl⟩⟩; refine ⟨_, rfl, ?_⟩) | (go_at_call 36; (with_reducible refine (hinterlandref10_within.calls a1_2 1 64 true _ A18.out).mono ?_); rintro e w' ⟨rfl, ⟨nd, rfl⟩⟩) | (go_at_call 36; (with_reducible refine (hinterlandref10_within.calls a1_7 0 1000000 false _ A20.out).mono ?_); rintro e w' ⟨rfl, ⟨nd, rfl⟩⟩))
           go_meet
           case rel => exact ⟨_, (true), tS_, H', ⟨by have := HJ4.out; first | omega | exact Nat.le_refl _⟩, ⟨dB_ BK268⟩, ⟨dL1_ HB GE268⟩⟩
         ·replace c19 := Bool.eq_false_iff.mpr c19
          subst c19
          have H1 : (hinterlandref10_Validate.j1 kj4 true) = some r := by rw [if_neg (show ¬ (false = true) by decide)] at H; exact H
          clear H
          have H := H1
          clear H1
          have H' := Aside0.mk H
          clear H
          obtain ⟨hcz37_0, hcz37_1, hcz37_2, hcz37_3, hcz37_4, hcz37_5, hcz37_6, hcz37_7, hcz37_8, hcz37_9, hfz37_0, hfz37_1, hfz37_2, hfz37_3, hfz37_4, hfz37_5, hfz37_6, hfz37_7, hfz37_8, hfz37_9⟩ := cs10_ BK268.out
          go_wp2_with (first | ((with_reducible refine gate_callee (f := 36) rfl ?_); refine goesL_ (some 31) rfl rfl Try.func36 (by kernel_rfl) rfl #[.int .i64 a1_1, .int .i64 0, .int .i64 1000000] rfl tA_ ?_; (with_reducible refine (hinterlandref10_within.calls a1_1 0 1000000 true _ A16.out).mono ?_); rintro e w' ⟨rfl, ⟨nd, rfl⟩⟩; refine ⟨_, rfl, ?_⟩) | (go_at_call 36; (with_reducible refine (hinterlandref10_within.calls a1_2 1 64 false _ A18.out).mono ?_); rintro e w' ⟨rfl, ⟨nd, rfl⟩⟩))
          go_meet
          case rel => exact ⟨_, (true), tS_, H', ⟨by have := HJ4.out; first | omega | exact Nat.le_refl _⟩, ⟨dB_ BK268⟩, ⟨dL1_ HB GE268⟩⟩
        ·replace c17 := Bool.eq_false_iff.mpr c17
         subst c17
         have H1 : (hinterlandref10_Validate.j1 kj4 true) = some r := by rw [if_neg (show ¬ (false = true) by decide)] at H; exact H
         clear H
         have H := H1
         clear H1
         have H' := Aside0.mk H
         clear H
         obtain ⟨hcz38_0, hcz38_1, hcz38_2, hcz38_3, hcz38_4, hcz38_5, hcz38_6, hcz38_7, hcz38_8, hcz38_9, hfz38_0, hfz38_1, hfz38_2, hfz38_3, hfz38_4, hfz38_5, hfz38_6, hfz38_7, hfz38_8, hfz38_9⟩ := cs10_ BK268.out
         go_wp2_with (first | ((with_reducible refine gate_callee (f := 36) rfl ?_); refine goesL_ (some 31) rfl rfl Try.func36 (by kernel_rfl) rfl #[.int .i64 a1_1, .int .i64 0, .int .i64 1000000] rfl tA_ ?_; (with_reducible refine (hinterlandref10_within.calls a1_1 0 1000000 false _ A16.out).mono ?_); rintro e w' ⟨rfl, ⟨nd, rfl⟩⟩; refine ⟨_, rfl, ?_⟩))
         go_meet
         case rel => exact ⟨_, (true), tS_, H', ⟨by have := HJ4.out; first | omega | exact Nat.le_refl _⟩, ⟨dB_ BK268⟩, ⟨dL1_ HB GE268⟩⟩
       case rest =>
        clear HC14
        try clear c4
        try clear c4b0
        try clear c4b1
        try clear c8
        try clear c11
        try clear c12
        try clear c12b0
        try clear c13
        try clear c13b0
        try clear hcz15_0
        try clear hcz15_1
        try clear hcz15_2
        try clear hcz15_3
        try clear hcz15_4
        try clear hcz15_5
        try clear hcz15_6
        try clear hcz15_7
        try clear hcz15_8
        try clear hcz15_9
        try clear hfz15_0
        try clear hfz15_1
        try clear hfz15_2
        try clear hfz15_3
        try clear hfz15_4
        try clear hfz15_5
        try clear hfz15_6
        try clear hfz15_7
        try clear hfz15_8
        try clear hfz15_9
        try clear hx270_0
        try clear hx270_1
        try clear hx270_2
        try clear p270
        try clear q270
        obtain ⟨kq, x78_13, rfl, HA, HJ13, BK268, HB⟩ := hcut
        cases kq with
        | zero => exact absurd HA.out (by simp [hinterlandref10_Validate.j1])
        | succ kj13 =>
         have H := HA.out
         clear HA
         simp only [hinterlandref10_Validate.j1] at H
         by_cases c39 : x78_13 = true
         ·subst c39
          have H1 : (some 1) = some r := by rw [if_pos rfl] at H; exact H
          clear H
          have H := H1
          clear H1
          obtain rfl := Option.some.inj H
          go_wp2
          go_ret
          exact ⟨tE_, dL1_ HB GE268⟩
         ·replace c39 := Bool.eq_false_iff.mpr c39
          subst c39
          have H1 : (some 0) = some r := by rw [if_neg (show ¬ (false = true) by decide)] at H; exact H
          clear H
          have H := H1
          clear H1
          obtain rfl := Option.some.inj H
          go_wp2
          go_ret
          exact ⟨tE_, dL1_ HB GE268⟩
      ·rw [if_neg c13] at H
       exact absurd H (by simp)
     ·rw [if_neg c12] at H
      exact absurd H (by simp)
 ·rw [if_neg c4] at H
  have c4b0 : (t269 == 0) = false := beq_eq_false_iff_ne.mpr c4
  have c4b1 : (t269 != 0) = true := bne_iff_ne.mpr c4
  obtain rfl := Option.some.inj H
  go_enter Try.func16, Try.ntmps16
  go_wp2_with (first | ((with_reducible refine gate_dst (N := 3) rfl ?_); (try (refine gate_guard (by rfl) ?_; dsimp only)); refine box_event ?hg (N := 3) ?hd (cs := #[.int .i64 a1_0, .int .i64 a1_1, .int .i64 a1_2, .slice A1_3 l1_3.length c1_3, .slice A1_4 l1_4.length c1_4, .slice A1_5 l1_5.length c1_5, .slice A1_6 l1_6.length c1_6, .int .i64 a1_7, .int .i64 a1_8, .bool a1_9]) (t := 25) ?hr ?_; (case hd => rfl); (case hg => rfl); (case hr => first | (go_simp; done) | (go_simp; rfl)); intro gb268 hg w40 hbox hb; have BK268 := Aside0.mk (hbox); have GW268 := Aside0.mk ((dS_ hg (dL_ HB) : w.heap.size ≤ gb268)); have GE268 := Aside0.mk ((dS_ hg (dL_ HB) : w.heap.size ≤ gb268)); replace HB := Aside0.mk (below_step (dL_ HB) hb); clear hb hbox hg) | ((with_reducible refine gate_callee (f := 35) rfl ?_); refine goesL_ (some 8) rfl rfl Try.func35 (by kernel_rfl) rfl #[.slice A0 l0.length c0] rfl tA_ ?_; (with_reducible refine (hinterlandref10_ValidateKinds.calls k _ _ l0 t269 _ ?side1 ?side2 A3.out).mono ?_); (case side1 => exact dC_ HR0 HB); (case side2 => exact HC0.out); rintro e w41 ⟨rfl, hb⟩; refine ⟨_, rfl, ?_⟩; replace BK268 := Aside0.mk (blk_below (g := gb268) (o := .cells #[.int .i64 a1_0, .int .i64 a1_1, .int .i64 a1_2, .slice A1_3 l1_3.length c1_3, .slice A1_4 l1_4.length c1_4, .slice A1_5 l1_5.length c1_5, .slice A1_6 l1_6.length c1_6, .int .i64 a1_7, .int .i64 a1_8, .bool a1_9] 25 (0, 0)) (dB_ BK268) hb); replace HB := Aside0.mk (below_step (dL1_ HB GE268) hb)))
  go_ret
  exact ⟨tE_, dL1_ HB GE268⟩

end Go.Proofs.Ytnkgelnkoljgdaa.Q
