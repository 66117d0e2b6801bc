-- PRINTED by print.py out of the translation. Not trusted: Lean checks it.
import Derived.Test.YtgnahbjpockdmaaPrs
import Derived.Test.YtgnahbjpockdmaaQ0
import Derived.Test.YtgnahbjpockdmaaQ39
namespace Go.Proofs.Ytgnahbjpockdmaa.Q
open Go.RowKit Go.Proofs.YtgnahbjpockdmaaPrs Go.Proofs.YtgnahbjpockdmaaOwn Go.Proofs.YtgnahbjpockdmaaW.PrintWords Go.Proofs.YtgnahbjpockdmaaW.PrintLast Go.Proofs.YtgnahbjpockdmaaW.PrintMore
attribute [local go_sem] max2_int min2_int max_two min_two max_three min_three max_four min_four   -- for this text's walks alone
set_option linter.unusedVariables false
set_option linter.unusedSimpArgs false

/-! ### fleet_worth: function 45 -/
def fleet_worth.f (a0_0 : ByteArray) (a0_1 : Int) (a0_2 : Int) (a0_3 : Int) (a0_4 : Int) (a0_5 : Int) (a0_6 : Int) (a0_7 : Int) (a0_8 : Int) (a0_9 : Int) (a0_10 : Int) (a0_11 : Int) (a0_12 : Int) (a0_13 : Bool) (a1 : Int) : Option (Int) := if (wrap64 (730 * a0_11)) = 0 then (none) else (some (wrap64 (Int.tdiv (wrap64 (a0_9 * (mx (wrap64 ((wrap64 (730 * a0_11)) - a1)) 0))) (wrap64 (730 * a0_11)))))
set_option maxHeartbeats 8000000 in
set_option maxRecDepth 100000 in
theorem fleet_worth.calls (a0_0 : ByteArray) (a0_1 : Int) (a0_2 : Int) (a0_3 : Int) (a0_4 : Int) (a0_5 : Int) (a0_6 : Int) (a0_7 : Int) (a0_8 : Int) (a0_9 : Int) (a0_10 : Int) (a0_11 : Int) (a0_12 : Int) (a0_13 : Bool) (a1 : Int) (r : Int) (w : World) (h : fleet_worth.f a0_0 a0_1 a0_2 a0_3 a0_4 a0_5 a0_6 a0_7 a0_8 a0_9 a0_10 a0_11 a0_12 a0_13 a1 = some r) :
    Calls Try.prog 45 #[.agg #[.string a0_0, .int .i64 a0_1, .int .i64 a0_2, .int .i64 a0_3, .int .i64 a0_4, .int .i64 a0_5, .int .i64 a0_6, .int .i64 a0_7, .int .i64 a0_8, .int .i64 a0_9, .int .i64 a0_10, .int .i64 a0_11, .int .i64 a0_12, .bool a0_13], .int .i64 a1] w fun e w' => e = .returned (.int .i64 r) ∧ Below w.heap.size w w' := by
 have hu54 := Try.underlying54
 have HB := Aside0.mk (Below.refl w.heap.size w)
 have H : (if (wrap64 (730 * a0_11)) = 0 then (none) else (some (wrap64 (Int.tdiv (wrap64 (a0_9 * (mx (wrap64 ((wrap64 (730 * a0_11)) - a1)) 0))) (wrap64 (730 * a0_11)))))) = some r := h
 clear h
 obtain ⟨ji3, hji3⟩ : ∃ j_ : Int, (mx (wrap64 ((wrap64 (730 * a0_11)) - a1)) 0) = j_ := ⟨_, rfl⟩
 replace H : (if (wrap64 (730 * a0_11)) = 0 then (none) else (some (wrap64 (Int.tdiv (wrap64 (a0_9 * (ji3))) (wrap64 (730 * a0_11)))))) = some r := by first | (rw [hji3] at H; exact H) | (simp only [hji3] at H ⊢; exact H)
 (try (have hji3l : 0 ≤ ji3 := by (rw [← hji3]; unfold mx; (repeat' split) <;> omega)))
 (try (have hji3m : 0 ≤ ji3 := by omega))
 have hji3_ : (if (wrap64 ((wrap64 (730 * a0_11)) - a1)) < 0 then 0 else (wrap64 ((wrap64 (730 * a0_11)) - a1))) = ji3 := hji3
 by_cases c4 : (wrap64 (730 * a0_11)) = 0
 ·rw [if_pos c4] at H
  exact absurd H (by simp)
 ·rw [if_neg c4] at H
  have c4b0 : ((wrap64 (730 * a0_11)) == 0) = false := beq_eq_false_iff_ne.mpr c4
  have c4b1 : ((wrap64 (730 * a0_11)) != 0) = true := bne_iff_ne.mpr c4
  obtain rfl := Option.some.inj H
  go_enter Try.func45, Try.ntmps45
  go_wp2_with (first | ((with_reducible refine gate_dst (N := 2) rfl ?_); refine box_event ?hg (N := 2) ?hd (cs := #[.string a0_0, .int .i64 a0_1, .int .i64 a0_2, .int .i64 a0_3, .int .i64 a0_4, .int .i64 a0_5, .int .i64 a0_6, .int .i64 a0_7, .int .i64 a0_8, .int .i64 a0_9, .int .i64 a0_10, .int .i64 a0_11, .int .i64 a0_12, .bool a0_13]) (t := 54) ?hr ?_; (case hd => rfl); (case hg => rfl); (case hr => first | (go_simp; done) | (go_simp; rfl)); intro gb429 hg w5 hbox hb; have n0_ := Aside0.mk (below_step (dL_ HB) hb); have n1_ := Aside0.mk (hbox); have n2_ := Aside0.mk ((dS_ hg (dL_ HB) : w.heap.size ≤ gb429)); have n3_ := Aside0.mk ((dS_ hg (dL_ HB) : w.heap.size ≤ gb429)); clear HB; have HB := n0_; have BK429 := n1_; have GW429 := n2_; have GE429 := n3_; clear n0_ n1_ n2_ n3_; clear hb hbox hg; obtain ⟨hcz6_0, hcz6_1, hcz6_2, hcz6_3, hcz6_4, hcz6_5, hcz6_6, hcz6_7, hcz6_8, hcz6_9, hcz6_10, hcz6_11, hcz6_12, hcz6_13, hfz6_0, hfz6_1, hfz6_2, hfz6_3, hfz6_4, hfz6_5, hfz6_6, hfz6_7, hfz6_8, hfz6_9, hfz6_10, hfz6_11, hfz6_12, hfz6_13⟩ := cs14_ BK429.out))
  go_ret
  exact ⟨by first | rfl | (simp [errW_none, errW_some] <;> rfl) | (simp only [← hji3]; first | rfl | (simp [errW_none, errW_some] <;> rfl)) | (simp [*, errW_none, errW_some] <;> rfl), dL1_ HB GE429⟩

end Go.Proofs.Ytgnahbjpockdmaa.Q
namespace Go.Proofs.Ytgnahbjpockdmaa.Q
open Go.RowKit Go.Proofs.YtgnahbjpockdmaaPrs Go.Proofs.YtgnahbjpockdmaaOwn Go.Proofs.YtgnahbjpockdmaaW.PrintWords Go.Proofs.YtgnahbjpockdmaaW.PrintLast Go.Proofs.YtgnahbjpockdmaaW.PrintMore
open List renaming setIfInBounds_toArray → sI_, set_cons_zero → s0_, set_cons_succ → sS_
attribute [local go_sem] max2_int min2_int max_two min_two max_three min_three max_four min_four   -- for this text's walks alone
set_option linter.unusedVariables false
set_option linter.unusedSimpArgs false

/-! ### fleet_Worth: function 27 -/
def fleet_Worth.l0 : Nat → List (S54) → Int → List Int → Int → Int → List Int → List Int → Int → Int → Int → Int → List (S69) → Option (Int × Int)
  | 0, _, _, _, _, _, _, _, _, _, _, _, _ => none
  | k + 1, x0, x7, x17, x18, x19, x431000, x431001, x431002, x431003, x431004, x431005, x431006 => if x19 < x18 then (if 0 ≤ x19 then (if x19 < (x17.length : Int) then (if 0 ≤ (rd x17 x19) then (if (rd x17 x19) < (x0.length : Int) then ((fleet_worth.f ((rd_T54 x0 (rd x17 x19)).f0) ((rd_T54 x0 (rd x17 x19)).f1) ((rd_T54 x0 (rd x17 x19)).f2) ((rd_T54 x0 (rd x17 x19)).f3) ((rd_T54 x0 (rd x17 x19)).f4) ((rd_T54 x0 (rd x17 x19)).f5) ((rd_T54 x0 (rd x17 x19)).f6) ((rd_T54 x0 (rd x17 x19)).f7) ((rd_T54 x0 (rd x17 x19)).f8) ((rd_T54 x0 (rd x17 x19)).f9) ((rd_T54 x0 (rd x17 x19)).f10) ((rd_T54 x0 (rd x17 x19)).f11) ((rd_T54 x0 (rd x17 x19)).f12) ((rd_T54 x0 (rd x17 x19)).f13) x431002).bind fun t434 => (fleet_Worth.l0 k x0 (wrap64 (x7 + t434)) x17 x18 (wrap64 (x19 + 1)) x431000 x431001 x431002 x431003 x431004 x431005 x431006)) else (none)) else (none)) else (none)) else (none)) else (some (x7, 0))
def fleet_Worth.f (k : Nat) (l0 : List (S54)) (l1_0 : List Int) (l1_1 : List Int) (a1_2 : Int) (a1_3 : Int) (a1_4 : Int) (a1_5 : Int) (l1_6 : List (S69)) : Option (Int × Int) := (fleet_Validate.f k l0 l1_0 l1_1 a1_2 a1_3 a1_4 a1_5 l1_6).bind fun t431 => (if t431 = 0 then (fleet_Worth.l0 k l0 0 l1_0 (l1_0.length : Int) 0 l1_0 l1_1 a1_2 a1_3 a1_4 a1_5 l1_6) else (some (0, t431)))
theorem fleet_Worth.mono_l : ∀ k, (∀ y0 y1 y2 y3 y4 y5 y6 y7 y8 y9 y10 y11, LeO (fleet_Worth.l0 k y0 y1 y2 y3 y4 y5 y6 y7 y8 y9 y10 y11) (fleet_Worth.l0 (k + 1) y0 y1 y2 y3 y4 y5 y6 y7 y8 y9 y10 y11))
  | 0 => fun _ _ _ _ _ _ _ _ _ _ _ _ r h => by simp [fleet_Worth.l0] at h
  | k + 1 => by
    have ih0 := fleet_Worth.mono_l k
    · intro y0 y1 y2 y3 y4 y5 y6 y7 y8 y9 y10 y11
      unfold fleet_Worth.l0
      repeat' first
      | (with_reducible exact ih0 _ _ _ _ _ _ _ _ _ _ _ _)
      | (with_reducible exact fleet_Validate.mono _ _ _ _ _ _ _ _ _)
      | (with_reducible exact LeO.refl _)
      | (with_reducible exact LeO.none _)
      | (with_reducible refine LeO.ite ?_ ?_)
      | (with_reducible refine LeO.bind ?_ (fun _ => ?_))
      | exact ih0 _ _ _ _ _ _ _ _ _ _ _ _
      | exact fleet_Validate.mono _ _ _ _ _ _ _ _ _
      | exact LeO.none _
      | refine LeO.ite ?_ ?_
      | refine LeO.bind ?_ (fun _ => ?_)
theorem fleet_Worth.mono : ∀ a0 a1 a2 a3 a4 a5 a6 a7 k, LeO (fleet_Worth.f k a0 a1 a2 a3 a4 a5 a6 a7) (fleet_Worth.f (k + 1) a0 a1 a2 a3 a4 a5 a6 a7) := by
  intro a0 a1 a2 a3 a4 a5 a6 a7 k
  have ih0 := fleet_Worth.mono_l k
  unfold fleet_Worth.f
  repeat' first
      | (with_reducible exact ih0 _ _ _ _ _ _ _ _ _ _ _ _)
      | (with_reducible exact fleet_Validate.mono _ _ _ _ _ _ _ _ _)
      | (with_reducible exact LeO.refl _)
      | (with_reducible exact LeO.none _)
      | (with_reducible refine LeO.ite ?_ ?_)
      | (with_reducible refine LeO.bind ?_ (fun _ => ?_))
      | exact ih0 _ _ _ _ _ _ _ _ _ _ _ _
      | exact fleet_Validate.mono _ _ _ _ _ _ _ _ _
      | exact LeO.none _
      | refine LeO.ite ?_ ?_
      | refine LeO.bind ?_ (fun _ => ?_)
def fleet_Worth.T8 : Bool × List (List Nat × List Nat) := (true, [([], []), ([], []), ([], []), ([1, 2], [1, 2]), ([3], [3]), ([], []), ([5], [5]), ([4, 6], [4, 6]), ([0, 7], [0, 7]), ([8, 7, 0, 1, 2, 3, 4, 5, 6, 7, 8], [0, 8])])
def fleet_Worth.B8 : List Nat := [0, 0, 0, 6, 14, 0, 32, 126, 255, 511]
theorem fleet_Worth.tab8 : rtab .any (opsOf Try.f27 8) = fleet_Worth.T8 := by kernel_rfl
theorem fleet_Worth.bits8 : waitsOk fleet_Worth.T8.2 fleet_Worth.B8 = true := by kernel_rfl
set_option maxHeartbeats 8000000 in
set_option maxRecDepth 100000 in
theorem fleet_Worth.calls (k : Nat) (A0 : Option Addr) (c0 : Nat) (l0 : List (S54)) (A1_0 : Option Addr) (c1_0 : Nat) (l1_0 : List Int) (A1_1 : Option Addr) (c1_1 : Nat) (l1_1 : List Int) (a1_2 : Int) (a1_3 : Int) (a1_4 : Int) (a1_5 : Int) (A1_6 : Option Addr) (c1_6 : Nat) (l1_6 : List (S69)) (r1 : Int) (r2 : Int) (w : World) (hr0 : Kd.C k54 w A0 l0.length l0) (hc0 : l0.length ≤ c0) (hr1_0 : Kd.C (Kd.int .i64) w A1_0 l1_0.length l1_0) (hc1_0 : l1_0.length ≤ c1_0) (hr1_1 : Kd.C (Kd.int .i64) w A1_1 l1_1.length l1_1) (hc1_1 : l1_1.length ≤ c1_1) (hr1_6 : Kd.C k69 w A1_6 l1_6.length l1_6) (hc1_6 : l1_6.length ≤ c1_6) (h : fleet_Worth.f k l0 l1_0 l1_1 a1_2 a1_3 a1_4 a1_5 l1_6 = some (r1, r2)) :
    Calls Try.prog 27 #[.slice A0 l0.length c0, .agg #[.slice A1_0 l1_0.length c1_0, .slice A1_1 l1_1.length c1_1, .int .i64 a1_2, .int .i64 a1_3, .int .i64 a1_4, .int .i64 a1_5, .slice A1_6 l1_6.length c1_6]] w fun e w' => e = .returned (.tuple #[.int .i64 r1, .int .i64 r2]) ∧ Below w.heap.size w w' := by
 have hu27 := Try.underlying27
 have hu54 := Try.underlying54
 have HR0 := Aside0.mk hr0
 have HC0 := Aside0.mk hc0
 clear hr0 hc0
 have HR1_0 := Aside0.mk hr1_0
 have HC1_0 := Aside0.mk hc1_0
 clear hr1_0 hc1_0
 have HR1_1 := Aside0.mk hr1_1
 have HC1_1 := Aside0.mk hc1_1
 clear hr1_1 hc1_1
 have HR1_6 := Aside0.mk hr1_6
 have HC1_6 := Aside0.mk hc1_6
 clear hr1_6 hc1_6
 have HB := Aside0.mk (Below.refl w.heap.size w)
 have H : ((fleet_Validate.f k l0 l1_0 l1_1 a1_2 a1_3 a1_4 a1_5 l1_6).bind fun t431 => (if t431 = 0 then (fleet_Worth.l0 k l0 0 l1_0 (l1_0.length : Int) 0 l1_0 l1_1 a1_2 a1_3 a1_4 a1_5 l1_6) else (some (0, t431)))) = some (r1, r2) := h
 clear h
 replace H := Option.bind_eq_some_iff.mp H
 obtain ⟨t431, A30, H⟩ := H
 replace H : (if t431 = 0 then (fleet_Worth.l0 k l0 0 l1_0 (l1_0.length : Int) 0 l1_0 l1_1 a1_2 a1_3 a1_4 a1_5 l1_6) else (some (0, t431))) = some (r1, r2) := H
 have A3 := Aside0.mk A30
 clear A30
 by_cases c4 : t431 = 0
 ·rw [if_pos c4] at H
  have c4b0 : (t431 == 0) = true := beq_iff_eq.mpr c4
  have c4b1 : (t431 != 0) = false := bne_eq_false_iff_eq.mpr c4
  clear c4
  have H' := Aside0.mk H
  clear H
  go_enter Try.func27, Try.ntmps27
  go_wp2_with (first | ((with_reducible refine gate_dst (N := 3) rfl ?_); refine box_event ?hg (N := 3) ?hd (cs := #[.slice A1_0 l1_0.length c1_0, .slice A1_1 l1_1.length c1_1, .int .i64 a1_2, .int .i64 a1_3, .int .i64 a1_4, .int .i64 a1_5, .slice A1_6 l1_6.length c1_6]) (t := 27) ?hr ?_; (case hd => rfl); (case hg => rfl); (case hr => first | (go_simp; done) | (go_simp; rfl)); intro gb430 hg w5 hbox hb; have n0_ := Aside0.mk (below_step (dL_ HB) hb); have n1_ := Aside0.mk (hbox); have n2_ := Aside0.mk ((dS_ hg (dL_ HB) : w.heap.size ≤ gb430)); have n3_ := Aside0.mk ((dS_ hg (dL_ HB) : w.heap.size ≤ gb430)); clear HB; have HB := n0_; have BK430 := n1_; have GW430 := n2_; have GE430 := n3_; clear n0_ n1_ n2_ n3_; clear hb hbox hg; obtain ⟨hcz6_0, hcz6_1, hcz6_2, hcz6_3, hcz6_4, hcz6_5, hcz6_6, hfz6_0, hfz6_1, hfz6_2, hfz6_3, hfz6_4, hfz6_5, hfz6_6⟩ := cs7_ BK430.out) | ((with_reducible refine gate_callee (f := 25) rfl ?_); refine goesL_ (some 12) rfl rfl Try.func25 (by kernel_rfl) rfl #[.slice A0 l0.length c0, .agg #[.slice A1_0 l1_0.length c1_0, .slice A1_1 l1_1.length c1_1, .int .i64 a1_2, .int .i64 a1_3, .int .i64 a1_4, .int .i64 a1_5, .slice A1_6 l1_6.length c1_6]] rfl tA_ ?_; (with_reducible refine (fleet_Validate.calls k _ _ l0 _ _ l1_0 _ _ l1_1 a1_2 a1_3 a1_4 a1_5 _ _ l1_6 t431 _ ?side1 ?side2 ?side3 ?side4 ?side5 ?side6 ?side7 ?side8 A3.out).mono ?_); (case side1 => exact dC_ HR0 HB); (case side2 => exact HC0.out); (case side3 => exact dC_ HR1_0 HB); (case side4 => exact HC1_0.out); (case side5 => exact dC_ HR1_1 HB); (case side6 => exact HC1_1.out); (case side7 => exact dC_ HR1_6 HB); (case side8 => exact HC1_6.out); rintro e w7 ⟨rfl, hb⟩; refine ⟨_, rfl, ?_⟩; have n0_ := Aside0.mk (bb_ BK430 hb); have n1_ := Aside0.mk (below_step (dL1_ HB GE430) hb); clear BK430; clear HB; have BK430 := n0_; have HB := n1_; clear n0_ n1_; (try clear hb); (try clear hb2); (try clear hk); (try clear hi); obtain ⟨hcz8_0, hcz8_1, hcz8_2, hcz8_3, hcz8_4, hcz8_5, hcz8_6, hfz8_0, hfz8_1, hfz8_2, hfz8_3, hfz8_4, hfz8_5, hfz8_6⟩ := cs7_ BK430.out))
  go_loopg [7, 19] k (fun kq v7 v19 w' => ∃ (x7_1 : Int) (x19_1 : Int), v7 = .int .i64 x7_1 ∧ v19 = .int .i64 x19_1 ∧ Aside0 (fleet_Worth.l0 kq l0 x7_1 l1_0 (l1_0.length : Int) x19_1 l1_0 l1_1 a1_2 a1_3 a1_4 a1_5 l1_6 = some (r1, r2)) ∧ Aside0 (kq ≤ k) ∧ Aside0 (w'.heap[gb430]? = some (.cells #[(.slice A1_0 l1_0.length c1_0), (.slice A1_1 l1_1.length c1_1), .int .i64 a1_2, .int .i64 a1_3, .int .i64 a1_4, .int .i64 a1_5, (.slice A1_6 l1_6.length c1_6)] 27 (0, 0))) ∧ Aside0 (Below w.heap.size w w'))
  case atStart => exact ⟨(0), (0), tS_, tS_, H', ⟨Nat.le_refl _⟩, ⟨dB_ BK430⟩, ⟨dL1_ HB GE430⟩⟩
  case round =>
   clear H'
   try clear c4
   try clear c4b0
   try clear c4b1
   try clear hcz6_0
   try clear hcz6_1
   try clear hcz6_2
   try clear hcz6_3
   try clear hcz6_4
   try clear hcz6_5
   try clear hcz6_6
   try clear hcz8_0
   try clear hcz8_1
   try clear hcz8_2
   try clear hcz8_3
   try clear hcz8_4
   try clear hcz8_5
   try clear hcz8_6
   try clear hfz6_0
   try clear hfz6_1
   try clear hfz6_2
   try clear hfz6_3
   try clear hfz6_4
   try clear hfz6_5
   try clear hfz6_6
   try clear hfz8_0
   try clear hfz8_1
   try clear hfz8_2
   try clear hfz8_3
   try clear hfz8_4
   try clear hfz8_5
   try clear hfz8_6
   obtain ⟨x7_1, x19_1, rfl, rfl, HA, HK1, BK430, HB⟩ := hrel
   cases gk with
   | zero => exact absurd HA.out (by simp [fleet_Worth.l0])
   | succ k1 =>
    have H := HA.out
    clear HA
    simp only [fleet_Worth.l0] at H
    by_cases c9 : x19_1 < (l1_0.length : Int)
    ·rw [if_pos c9] at H
     have c9b0 : decide (x19_1 < (l1_0.length : Int)) = true := decide_eq_true c9
     clear c9
     by_cases c10 : 0 ≤ x19_1
     ·rw [if_pos c10] at H
      have c10b0 : decide (0 ≤ x19_1) = true := decide_eq_true c10
      clear c10
      by_cases c11 : x19_1 < (l1_0.length : Int)
      ·rw [if_pos c11] at H
       have c11b0 : decide (x19_1 < (l1_0.length : Int)) = true := decide_eq_true c11
       clear c11
       by_cases c12 : 0 ≤ (rd l1_0 x19_1)
       ·rw [if_pos c12] at H
        have c12b0 : decide (0 ≤ (rd l1_0 x19_1)) = true := decide_eq_true c12
        clear c12
        by_cases c13 : (rd l1_0 x19_1) < (l0.length : Int)
        ·rw [if_pos c13] at H
         have c13b0 : decide ((rd l1_0 x19_1) < (l0.length : Int)) = true := decide_eq_true c13
         clear c13
         replace H := Option.bind_eq_some_iff.mp H
         obtain ⟨t434, A140, H⟩ := H
         replace H : (fleet_Worth.l0 k1 l0 (wrap64 (x7_1 + t434)) l1_0 (l1_0.length : Int) (wrap64 (x19_1 + 1)) l1_0 l1_1 a1_2 a1_3 a1_4 a1_5 l1_6) = some (r1, r2) := H
         have A14 := Aside0.mk A140
         clear A140
         have H' := Aside0.mk H
         clear H
         have p432 : 0 ≤ (x19_1 : Int) := of_decide_eq_true tW_
         have q432 : x19_1 < (l1_0.length : Int) := of_decide_eq_true tW_
         obtain ⟨ad432, e432, hx432_0⟩ := Kd.at_int HR1_0.out x19_1 p432 q432
         cases e432
         replace hx432_0 := bc_ HB hx432_0
         replace p432 := eq_true p432
         replace q432 := eq_true q432
         try go_wp2
         have n0_ := Aside0.mk (blk_drew BK430.out)
         have n1_ := Aside0.mk (below_drew1 HB.out)
         clear BK430
         clear HB
         have BK430 := n0_
         have HB := n1_
         clear n0_ n1_
         have p433 : 0 ≤ ((rd l1_0 x19_1) : Int) := of_decide_eq_true tW_
         have q433 : (rd l1_0 x19_1) < (l0.length : Int) := of_decide_eq_true tW_
         obtain ⟨ad433, e433, hx433_0, hx433_1, hx433_2, hx433_3, hx433_4, hx433_5, hx433_6, hx433_7, hx433_8, hx433_9, hx433_10, hx433_11, hx433_12, hx433_13⟩ := at_T54 HR0.out (rd l1_0 x19_1) p433 q433
         have hw433_13 := hx433_13
         have hw433_12 := hx433_12
         have hw433_11 := hx433_11
         have hw433_10 := hx433_10
         have hw433_9 := hx433_9
         have hw433_8 := hx433_8
         have hw433_7 := hx433_7
         have hw433_6 := hx433_6
         have hw433_5 := hx433_5
         have hw433_4 := hx433_4
         have hw433_3 := hx433_3
         have hw433_2 := hx433_2
         have hw433_1 := hx433_1
         have hw433_0 := hx433_0
         cases e433
         replace hx433_0 := bc_ HB hx433_0
         replace hx433_1 := bc_ HB hx433_1
         replace hx433_2 := bc_ HB hx433_2
         replace hx433_3 := bc_ HB hx433_3
         replace hx433_4 := bc_ HB hx433_4
         replace hx433_5 := bc_ HB hx433_5
         replace hx433_6 := bc_ HB hx433_6
         replace hx433_7 := bc_ HB hx433_7
         replace hx433_8 := bc_ HB hx433_8
         replace hx433_9 := bc_ HB hx433_9
         replace hx433_10 := bc_ HB hx433_10
         replace hx433_11 := bc_ HB hx433_11
         replace hx433_12 := bc_ HB hx433_12
         replace hx433_13 := bc_ HB hx433_13
         replace p433 := eq_true p433
         replace q433 := eq_true q433
         refine start_ (n := 10) (S := fun w' => w'.cell? ⟨gb430, 0, none⟩ = some (.slice (some ad432) l1_0.length c1_0) ∧ w'.cell? ⟨gb430, 1, none⟩ = some (.slice A1_1 l1_1.length c1_1) ∧ w'.cell? ⟨gb430, 2, none⟩ = some (.int .i64 a1_2) ∧ w'.cell? ⟨gb430, 3, none⟩ = some (.int .i64 a1_3) ∧ w'.cell? ⟨gb430, 4, none⟩ = some (.int .i64 a1_4) ∧ w'.cell? ⟨gb430, 5, none⟩ = some (.int .i64 a1_5) ∧ w'.cell? ⟨gb430, 6, none⟩ = some (.slice A1_6 l1_6.length c1_6) ∧ w'.cell? (ad433.add (((rd l1_0 x19_1)).toNat * 14)) = some (.string ((rd_T54 l0 (rd l1_0 x19_1)).f0)) ∧ w'.cell? ⟨(ad433.add (((rd l1_0 x19_1)).toNat * 14)).block, (ad433.add (((rd l1_0 x19_1)).toNat * 14)).off + 1, none⟩ = some (.int .i64 ((rd_T54 l0 (rd l1_0 x19_1)).f1)) ∧ w'.cell? ⟨(ad433.add (((rd l1_0 x19_1)).toNat * 14)).block, (ad433.add (((rd l1_0 x19_1)).toNat * 14)).off + 2, none⟩ = some (.int .i64 ((rd_T54 l0 (rd l1_0 x19_1)).f2)) ∧ w'.cell? ⟨(ad433.add (((rd l1_0 x19_1)).toNat * 14)).block, (ad433.add (((rd l1_0 x19_1)).toNat * 14)).off + 3, none⟩ = some (.int .i64 ((rd_T54 l0 (rd l1_0 x19_1)).f3)) ∧ w'.cell? ⟨(ad433.add (((rd l1_0 x19_1)).toNat * 14)).block, (ad433.add (((rd l1_0 x19_1)).toNat * 14)).off + 4, none⟩ = some (.int .i64 ((rd_T54 l0 (rd l1_0 x19_1)).f4)) ∧ w'.cell? ⟨(ad433.add (((rd l1_0 x19_1)).toNat * 14)).block, (ad433.add (((rd l1_0 x19_1)).toNat * 14)).off + 5, none⟩ = some (.int .i64 ((rd_T54 l0 (rd l1_0 x19_1)).f5)) ∧ w'.cell? ⟨(ad433.add (((rd l1_0 x19_1)).toNat * 14)).block, (ad433.add (((rd l1_0 x19_1)).toNat * 14)).off + 6, none⟩ = some (.int .i64 ((rd_T54 l0 (rd l1_0 x19_1)).f6)) ∧ w'.cell? ⟨(ad433.add (((rd l1_0 x19_1)).toNat * 14)).block, (ad433.add (((rd l1_0 x19_1)).toNat * 14)).off + 7, none⟩ = some (.int .i64 ((rd_T54 l0 (rd l1_0 x19_1)).f7)) ∧ w'.cell? ⟨(ad433.add (((rd l1_0 x19_1)).toNat * 14)).block, (ad433.add (((rd l1_0 x19_1)).toNat * 14)).off + 8, none⟩ = some (.int .i64 ((rd_T54 l0 (rd l1_0 x19_1)).f8)) ∧ w'.cell? ⟨(ad433.add (((rd l1_0 x19_1)).toNat * 14)).block, (ad433.add (((rd l1_0 x19_1)).toNat * 14)).off + 9, none⟩ = some (.int .i64 ((rd_T54 l0 (rd l1_0 x19_1)).f9)) ∧ w'.cell? ⟨(ad433.add (((rd l1_0 x19_1)).toNat * 14)).block, (ad433.add (((rd l1_0 x19_1)).toNat * 14)).off + 10, none⟩ = some (.int .i64 ((rd_T54 l0 (rd l1_0 x19_1)).f10)) ∧ w'.cell? ⟨(ad433.add (((rd l1_0 x19_1)).toNat * 14)).block, (ad433.add (((rd l1_0 x19_1)).toNat * 14)).off + 11, none⟩ = some (.int .i64 ((rd_T54 l0 (rd l1_0 x19_1)).f11)) ∧ w'.cell? ⟨(ad433.add (((rd l1_0 x19_1)).toNat * 14)).block, (ad433.add (((rd l1_0 x19_1)).toNat * 14)).off + 12, none⟩ = some (.int .i64 ((rd_T54 l0 (rd l1_0 x19_1)).f12)) ∧ w'.cell? ⟨(ad433.add (((rd l1_0 x19_1)).toNat * 14)).block, (ad433.add (((rd l1_0 x19_1)).toNat * 14)).off + 13, none⟩ = some (.bool ((rd_T54 l0 (rd l1_0 x19_1)).f13))) (ds := []) #[false, false, false, false, false, false, false, false, false, false] (by kernel_rfl) rfl rfl ⟨(blk_cell BK430.out 0).trans rfl, (blk_cell BK430.out 1).trans rfl, (blk_cell BK430.out 2).trans rfl, (blk_cell BK430.out 3).trans rfl, (blk_cell BK430.out 4).trans rfl, (blk_cell BK430.out 5).trans rfl, (blk_cell BK430.out 6).trans rfl, ((HB.out.cell (World.block_lt_of_cell? w _ hw433_0)).trans hw433_0), ((HB.out.cell (World.block_lt_of_cell? w _ hw433_1)).trans hw433_1), ((HB.out.cell (World.block_lt_of_cell? w _ hw433_2)).trans hw433_2), ((HB.out.cell (World.block_lt_of_cell? w _ hw433_3)).trans hw433_3), ((HB.out.cell (World.block_lt_of_cell? w _ hw433_4)).trans hw433_4), ((HB.out.cell (World.block_lt_of_cell? w _ hw433_5)).trans hw433_5), ((HB.out.cell (World.block_lt_of_cell? w _ hw433_6)).trans hw433_6), ((HB.out.cell (World.block_lt_of_cell? w _ hw433_7)).trans hw433_7), ((HB.out.cell (World.block_lt_of_cell? w _ hw433_8)).trans hw433_8), ((HB.out.cell (World.block_lt_of_cell? w _ hw433_9)).trans hw433_9), ((HB.out.cell (World.block_lt_of_cell? w _ hw433_10)).trans hw433_10), ((HB.out.cell (World.block_lt_of_cell? w _ hw433_11)).trans hw433_11), ((HB.out.cell (World.block_lt_of_cell? w _ hw433_12)).trans hw433_12), ((HB.out.cell (World.block_lt_of_cell? w _ hw433_13)).trans hw433_13)⟩ (fun hHeld => ?_); refine with_tabW fleet_Worth.tab8 fleet_Worth.bits8 (fun HT_ HW_ => ?_)
         generalize wr.drew = w15 at BK430 HB hx433_0 hx433_1 hx433_10 hx433_11 hx433_12 hx433_13 hx433_2 hx433_3 hx433_4 hx433_5 hx433_6 hx433_7 hx433_8 hx433_9 hHeld ⊢
         refine pure_ (i := 0) (N := some 23) (v := ?_) (a' := ?_) #[true, false, false, false, false, false, false, false, false, false] rfl rfl (any_of HT_.out (by kernel_rfl)) (fun _ _ _ h => h) (Or.inl ⟨by rfl, ?_⟩) ?_ ?_
         rotate_left
         ·intro w'
          go_simp
          with_reducible rfl
         rotate_left
         ·simp only [Act.put, sI_, s0_, sS_, i64_w, i32_w]
          rfl
         refine pure_ (i := 1) (N := some 24) (v := ?_) (a' := ?_) #[true, true, false, false, false, false, false, false, false, false] rfl rfl (any_of HT_.out (by kernel_rfl)) (fun _ _ _ h => h) (Or.inl ⟨by rfl, ?_⟩) ?_ ?_
         rotate_left
         ·intro w'
          go_simp
          with_reducible rfl
         rotate_left
         ·simp only [Act.put, sI_, s0_, sS_, i64_w, i32_w]
          rfl
         refine pure_ (i := 2) (N := some 25) (v := ?_) (a' := ?_) #[true, true, true, false, false, false, false, false, false, false] rfl rfl (any_of HT_.out (by kernel_rfl)) (fun _ _ _ h => h) (Or.inl ⟨by rfl, ?_⟩) ?_ ?_
         rotate_left
         ·intro w'
          go_simp
          with_reducible rfl
         rotate_left
         ·simp only [Act.put, sI_, s0_, sS_, i64_w, i32_w]
          rfl
         refine pure_ (i := 3) (N := some 26) (v := ?_) (a' := ?_) #[true, true, true, true, false, false, false, false, false, false] rfl rfl (any_of HT_.out (by kernel_rfl)) (fun _ _ _ h => h) (Or.inl ⟨by rfl, ?_⟩) ?_ ?_
         rotate_left
         ·intro w'
          go_simp
          with_reducible rfl
         rotate_left
         ·simp only [Act.put, sI_, s0_, sS_, i64_w, i32_w]
          rfl
         refine pure_ (i := 5) (N := some 28) (v := ?_) (a' := ?_) #[true, true, true, true, false, true, false, false, false, false] rfl rfl (any_of HT_.out (by kernel_rfl)) (fun _ _ _ h => h) (Or.inl ⟨by rfl, ?_⟩) ?_ ?_
         rotate_left
         ·intro w'
          go_simp
          with_reducible rfl
         rotate_left
         ·simp only [Act.put, sI_, s0_, sS_, i64_w, i32_w]
          rfl
         refine take_ (i := 4) (N := some 27) (v := ?_) (a' := ?_) #[true, true, true, true, true, true, false, false, false, false] rfl rfl (take_ofW HT_.out HW_.out (by kernel_rfl)) (fun _ _ _ h => h) (Or.inl ⟨by rfl, ?_⟩) hHeld ?_ ?_
         rotate_left
         ·rintro w' ⟨s0, s1, s2, s3, s4, s5, s6, s7, s8, s9, s10, s11, s12, s13, s14, s15, s16, s17, s18, s19, s20⟩
          go_simp
          with_reducible rfl
         rotate_left
         ·simp only [Act.put, sI_, s0_, sS_, i64_w, i32_w]
          rfl
         refine take_ (i := 6) (N := some 29) (v := ?_) (a' := ?_) #[true, true, true, true, true, true, true, false, false, false] rfl rfl (take_ofW HT_.out HW_.out (by kernel_rfl)) (fun _ _ _ h => h) (Or.inl ⟨by rfl, ?_⟩) hHeld ?_ ?_
         rotate_left
         ·rintro w' ⟨s0, s1, s2, s3, s4, s5, s6, s7, s8, s9, s10, s11, s12, s13, s14, s15, s16, s17, s18, s19, s20⟩
          go_simp
          with_reducible rfl
         rotate_left
         ·simp only [Act.put, sI_, s0_, sS_, i64_w, i32_w]
          rfl
         refine one_ (i := 7) (N := some 30) #[true, true, true, true, true, true, true, true, false, false] rfl rfl (one_of HT_.out (by kernel_rfl)) (by decide) (fun K hK => ?_)
         refine goes_ Try.func45 (by kernel_rfl) rfl #[.agg #[.string ((rd_T54 l0 (rd l1_0 x19_1)).f0), .int .i64 ((rd_T54 l0 (rd l1_0 x19_1)).f1), .int .i64 ((rd_T54 l0 (rd l1_0 x19_1)).f2), .int .i64 ((rd_T54 l0 (rd l1_0 x19_1)).f3), .int .i64 ((rd_T54 l0 (rd l1_0 x19_1)).f4), .int .i64 ((rd_T54 l0 (rd l1_0 x19_1)).f5), .int .i64 ((rd_T54 l0 (rd l1_0 x19_1)).f6), .int .i64 ((rd_T54 l0 (rd l1_0 x19_1)).f7), .int .i64 ((rd_T54 l0 (rd l1_0 x19_1)).f8), .int .i64 ((rd_T54 l0 (rd l1_0 x19_1)).f9), .int .i64 ((rd_T54 l0 (rd l1_0 x19_1)).f10), .int .i64 ((rd_T54 l0 (rd l1_0 x19_1)).f11), .int .i64 ((rd_T54 l0 (rd l1_0 x19_1)).f12), .bool ((rd_T54 l0 (rd l1_0 x19_1)).f13)], .int .i64 a1_2] (by rfl) rfl rfl tA_ ?_
         with_reducible refine (fleet_worth.calls ((rd_T54 l0 (rd l1_0 x19_1)).f0) ((rd_T54 l0 (rd l1_0 x19_1)).f1) ((rd_T54 l0 (rd l1_0 x19_1)).f2) ((rd_T54 l0 (rd l1_0 x19_1)).f3) ((rd_T54 l0 (rd l1_0 x19_1)).f4) ((rd_T54 l0 (rd l1_0 x19_1)).f5) ((rd_T54 l0 (rd l1_0 x19_1)).f6) ((rd_T54 l0 (rd l1_0 x19_1)).f7) ((rd_T54 l0 (rd l1_0 x19_1)).f8) ((rd_T54 l0 (rd l1_0 x19_1)).f9) ((rd_T54 l0 (rd l1_0 x19_1)).f10) ((rd_T54 l0 (rd l1_0 x19_1)).f11) ((rd_T54 l0 (rd l1_0 x19_1)).f12) ((rd_T54 l0 (rd l1_0 x19_1)).f13) a1_2 t434 _ A14.out).mono ?_
         rintro e w16 ⟨rfl, hb⟩
         refine ⟨_, rfl, ?_⟩
         have n0_ := Aside0.mk (bb_ BK430 hb)
         have n1_ := Aside0.mk (below_step (dL1_ HB GE430) hb)
         clear BK430
         clear HB
         have BK430 := n0_
         have HB := n1_
         clear n0_ n1_
         (try clear hb)
         (try clear hb2)
         (try clear hk)
         (try clear hi)
         refine hK.out _ _ ⟨(blk_cell BK430.out 0).trans rfl, (blk_cell BK430.out 1).trans rfl, (blk_cell BK430.out 2).trans rfl, (blk_cell BK430.out 3).trans rfl, (blk_cell BK430.out 4).trans rfl, (blk_cell BK430.out 5).trans rfl, (blk_cell BK430.out 6).trans rfl, ((HB.out.cell (World.block_lt_of_cell? w _ hw433_0)).trans hw433_0), ((HB.out.cell (World.block_lt_of_cell? w _ hw433_1)).trans hw433_1), ((HB.out.cell (World.block_lt_of_cell? w _ hw433_2)).trans hw433_2), ((HB.out.cell (World.block_lt_of_cell? w _ hw433_3)).trans hw433_3), ((HB.out.cell (World.block_lt_of_cell? w _ hw433_4)).trans hw433_4), ((HB.out.cell (World.block_lt_of_cell? w _ hw433_5)).trans hw433_5), ((HB.out.cell (World.block_lt_of_cell? w _ hw433_6)).trans hw433_6), ((HB.out.cell (World.block_lt_of_cell? w _ hw433_7)).trans hw433_7), ((HB.out.cell (World.block_lt_of_cell? w _ hw433_8)).trans hw433_8), ((HB.out.cell (World.block_lt_of_cell? w _ hw433_9)).trans hw433_9), ((HB.out.cell (World.block_lt_of_cell? w _ hw433_10)).trans hw433_10), ((HB.out.cell (World.block_lt_of_cell? w _ hw433_11)).trans hw433_11), ((HB.out.cell (World.block_lt_of_cell? w _ hw433_12)).trans hw433_12), ((HB.out.cell (World.block_lt_of_cell? w _ hw433_13)).trans hw433_13)⟩ (fun hHeld => ?_)
         clear hK K
         refine norm_ (a' := ?_) ?_ ?_
         rotate_left
         ·show Act.put _ (some 30) _ = _
          simp only [Act.put, sI_, s0_, sS_, i64_w, i32_w]
          rfl
         refine pure_ (i := 8) (N := some 31) (v := ?_) (a' := ?_) #[true, true, true, true, true, true, true, true, true, false] rfl rfl (any_of HT_.out (by kernel_rfl)) (fun _ _ _ h => h) (Or.inl ⟨by rfl, ?_⟩) ?_ ?_
         rotate_left
         ·intro w'
          go_simp
          with_reducible rfl
         rotate_left
         ·simp only [Act.put, sI_, s0_, sS_, i64_w, i32_w]
          rfl
         refine pure_ (i := 9) (N := some 7) (v := ?_) (a' := ?_) #[true, true, true, true, true, true, true, true, true, true] rfl rfl (any_of HT_.out (by kernel_rfl)) (fun _ _ _ h => h) (Or.inl ⟨by rfl, ?_⟩) ?_ ?_
         rotate_left
         ·intro w'
          go_simp
          with_reducible rfl
         rotate_left
         ·simp only [Act.put, sI_, s0_, sS_, i64_w, i32_w]
          rfl
         refine done_ (done_of HT_.out (by kernel_rfl)) ?_
         try go_wp2
         go_roundg k1
         case measure => have := HK1.out; omega
         case rel => exact ⟨(wrap64 (x7_1 + t434)), (wrap64 (x19_1 + 1)), tS_, tS_, H', ⟨by have := HK1.out; omega⟩, ⟨dB_ BK430⟩, ⟨dL1_ HB GE430⟩⟩
        ·rw [if_neg c13] at H
         exact absurd H (by simp)
       ·rw [if_neg c12] at H
        exact absurd H (by simp)
      ·rw [if_neg c11] at H
       exact absurd H (by simp)
     ·rw [if_neg c10] at H
      exact absurd H (by simp)
    ·rw [if_neg c9] at H
     have c9b0 : decide (x19_1 < (l1_0.length : Int)) = false := decide_eq_false c9
     clear c9
     simp only [Option.some.injEq, Prod.mk.injEq] at H
     obtain ⟨rfl, rfl⟩ := H
     go_wp2
     go_ret2
     exact ⟨tE_, dL1_ HB GE430⟩
 ·rw [if_neg c4] at H
  have c4b0 : (t431 == 0) = false := beq_eq_false_iff_ne.mpr c4
  have c4b1 : (t431 != 0) = true := bne_iff_ne.mpr c4
  simp only [Option.some.injEq, Prod.mk.injEq] at H
  obtain ⟨rfl, rfl⟩ := H
  go_enter Try.func27, Try.ntmps27
  go_wp2_with (first | ((with_reducible refine gate_dst (N := 3) rfl ?_); refine box_event ?hg (N := 3) ?hd (cs := #[.slice A1_0 l1_0.length c1_0, .slice A1_1 l1_1.length c1_1, .int .i64 a1_2, .int .i64 a1_3, .int .i64 a1_4, .int .i64 a1_5, .slice A1_6 l1_6.length c1_6]) (t := 27) ?hr ?_; (case hd => rfl); (case hg => rfl); (case hr => first | (go_simp; done) | (go_simp; rfl)); intro gb430 hg w17 hbox hb; have n0_ := Aside0.mk (below_step (dL_ HB) hb); have n1_ := Aside0.mk (hbox); have n2_ := Aside0.mk ((dS_ hg (dL_ HB) : w.heap.size ≤ gb430)); have n3_ := Aside0.mk ((dS_ hg (dL_ HB) : w.heap.size ≤ gb430)); clear HB; have HB := n0_; have BK430 := n1_; have GW430 := n2_; have GE430 := n3_; clear n0_ n1_ n2_ n3_; clear hb hbox hg; obtain ⟨hcz18_0, hcz18_1, hcz18_2, hcz18_3, hcz18_4, hcz18_5, hcz18_6, hfz18_0, hfz18_1, hfz18_2, hfz18_3, hfz18_4, hfz18_5, hfz18_6⟩ := cs7_ BK430.out) | ((with_reducible refine gate_callee (f := 25) rfl ?_); refine goesL_ (some 12) rfl rfl Try.func25 (by kernel_rfl) rfl #[.slice A0 l0.length c0, .agg #[.slice A1_0 l1_0.length c1_0, .slice A1_1 l1_1.length c1_1, .int .i64 a1_2, .int .i64 a1_3, .int .i64 a1_4, .int .i64 a1_5, .slice A1_6 l1_6.length c1_6]] rfl tA_ ?_; (with_reducible refine (fleet_Validate.calls k _ _ l0 _ _ l1_0 _ _ l1_1 a1_2 a1_3 a1_4 a1_5 _ _ l1_6 t431 _ ?side1 ?side2 ?side3 ?side4 ?side5 ?side6 ?side7 ?side8 A3.out).mono ?_); (case side1 => exact dC_ HR0 HB); (case side2 => exact HC0.out); (case side3 => exact dC_ HR1_0 HB); (case side4 => exact HC1_0.out); (case side5 => exact dC_ HR1_1 HB); (case side6 => exact HC1_1.out); (case side7 => exact dC_ HR1_6 HB); (case side8 => exact HC1_6.out); rintro e w19 ⟨rfl, hb⟩; refine ⟨_, rfl, ?_⟩; have n0_ := Aside0.mk (bb_ BK430 hb); have n1_ := Aside0.mk (below_step (dL1_ HB GE430) hb); clear BK430; clear HB; have BK430 := n0_; have HB := n1_; clear n0_ n1_; (try clear hb); (try clear hb2); (try clear hk); (try clear hi)))
  go_ret2
  exact ⟨tE_, dL1_ HB GE430⟩

end Go.Proofs.Ytgnahbjpockdmaa.Q
namespace Go.Proofs.Ytgnahbjpockdmaa.Q
open Go.RowKit Go.Proofs.YtgnahbjpockdmaaPrs Go.Proofs.YtgnahbjpockdmaaOwn Go.Proofs.YtgnahbjpockdmaaW.PrintWords Go.Proofs.YtgnahbjpockdmaaW.PrintLast Go.Proofs.YtgnahbjpockdmaaW.PrintMore
attribute [local go_sem] max2_int min2_int max_two min_two max_three min_three max_four min_four   -- for this text's walks alone
set_option linter.unusedVariables false
set_option linter.unusedSimpArgs false

/-! ### hinterlandref14_value: function 46 -/
def hinterlandref14_value.f (a0_0 : ByteArray) (a0_1 : Int) (a0_2 : Int) (a0_3 : Int) (a0_4 : Int) (a0_5 : Int) (a0_6 : Int) (a0_7 : Int) (a0_8 : Int) (a0_9 : Int) (a0_10 : Int) (a0_11 : Int) (a0_12 : Int) (a0_13 : Bool) (a1 : Int) : Option (Int) := if (wrap64 (730 * a0_11)) = 0 then (none) else (some (wrap64 (Int.tdiv (wrap64 (a0_9 * (mx (wrap64 ((wrap64 (730 * a0_11)) - a1)) 0))) (wrap64 (730 * a0_11)))))
set_option maxHeartbeats 8000000 in
set_option maxRecDepth 100000 in
theorem hinterlandref14_value.calls (a0_0 : ByteArray) (a0_1 : Int) (a0_2 : Int) (a0_3 : Int) (a0_4 : Int) (a0_5 : Int) (a0_6 : Int) (a0_7 : Int) (a0_8 : Int) (a0_9 : Int) (a0_10 : Int) (a0_11 : Int) (a0_12 : Int) (a0_13 : Bool) (a1 : Int) (r : Int) (w : World) (h : hinterlandref14_value.f a0_0 a0_1 a0_2 a0_3 a0_4 a0_5 a0_6 a0_7 a0_8 a0_9 a0_10 a0_11 a0_12 a0_13 a1 = some r) :
    Calls Try.prog 46 #[.agg #[.string a0_0, .int .i64 a0_1, .int .i64 a0_2, .int .i64 a0_3, .int .i64 a0_4, .int .i64 a0_5, .int .i64 a0_6, .int .i64 a0_7, .int .i64 a0_8, .int .i64 a0_9, .int .i64 a0_10, .int .i64 a0_11, .int .i64 a0_12, .bool a0_13], .int .i64 a1] w fun e w' => e = .returned (.int .i64 r) ∧ Below w.heap.size w w' := by
 have hu54 := Try.underlying54
 have HB := Aside0.mk (Below.refl w.heap.size w)
 have H : (if (wrap64 (730 * a0_11)) = 0 then (none) else (some (wrap64 (Int.tdiv (wrap64 (a0_9 * (mx (wrap64 ((wrap64 (730 * a0_11)) - a1)) 0))) (wrap64 (730 * a0_11)))))) = some r := h
 clear h
 obtain ⟨ji3, hji3⟩ : ∃ j_ : Int, (mx (wrap64 ((wrap64 (730 * a0_11)) - a1)) 0) = j_ := ⟨_, rfl⟩
 replace H : (if (wrap64 (730 * a0_11)) = 0 then (none) else (some (wrap64 (Int.tdiv (wrap64 (a0_9 * (ji3))) (wrap64 (730 * a0_11)))))) = some r := by first | (rw [hji3] at H; exact H) | (simp only [hji3] at H ⊢; exact H)
 (try (have hji3l : 0 ≤ ji3 := by (rw [← hji3]; unfold mx; (repeat' split) <;> omega)))
 (try (have hji3m : 0 ≤ ji3 := by omega))
 have hji3_ : (if (wrap64 ((wrap64 (730 * a0_11)) - a1)) < 0 then 0 else (wrap64 ((wrap64 (730 * a0_11)) - a1))) = ji3 := hji3
 by_cases c4 : (wrap64 (730 * a0_11)) = 0
 ·rw [if_pos c4] at H
  exact absurd H (by simp)
 ·rw [if_neg c4] at H
  have c4b0 : ((wrap64 (730 * a0_11)) == 0) = false := beq_eq_false_iff_ne.mpr c4
  have c4b1 : ((wrap64 (730 * a0_11)) != 0) = true := bne_iff_ne.mpr c4
  obtain rfl := Option.some.inj H
  go_enter Try.func46, Try.ntmps46
  go_wp2_with (first | ((with_reducible refine gate_dst (N := 2) rfl ?_); refine box_event ?hg (N := 2) ?hd (cs := #[.string a0_0, .int .i64 a0_1, .int .i64 a0_2, .int .i64 a0_3, .int .i64 a0_4, .int .i64 a0_5, .int .i64 a0_6, .int .i64 a0_7, .int .i64 a0_8, .int .i64 a0_9, .int .i64 a0_10, .int .i64 a0_11, .int .i64 a0_12, .bool a0_13]) (t := 54) ?hr ?_; (case hd => rfl); (case hg => rfl); (case hr => first | (go_simp; done) | (go_simp; rfl)); intro gb435 hg w5 hbox hb; have n0_ := Aside0.mk (below_step (dL_ HB) hb); have n1_ := Aside0.mk (hbox); have n2_ := Aside0.mk ((dS_ hg (dL_ HB) : w.heap.size ≤ gb435)); have n3_ := Aside0.mk ((dS_ hg (dL_ HB) : w.heap.size ≤ gb435)); clear HB; have HB := n0_; have BK435 := n1_; have GW435 := n2_; have GE435 := n3_; clear n0_ n1_ n2_ n3_; clear hb hbox hg; obtain ⟨hcz6_0, hcz6_1, hcz6_2, hcz6_3, hcz6_4, hcz6_5, hcz6_6, hcz6_7, hcz6_8, hcz6_9, hcz6_10, hcz6_11, hcz6_12, hcz6_13, hfz6_0, hfz6_1, hfz6_2, hfz6_3, hfz6_4, hfz6_5, hfz6_6, hfz6_7, hfz6_8, hfz6_9, hfz6_10, hfz6_11, hfz6_12, hfz6_13⟩ := cs14_ BK435.out))
  go_ret
  exact ⟨by first | rfl | (simp [errW_none, errW_some] <;> rfl) | (simp only [← hji3]; first | rfl | (simp [errW_none, errW_some] <;> rfl)) | (simp [*, errW_none, errW_some] <;> rfl), dL1_ HB GE435⟩

end Go.Proofs.Ytgnahbjpockdmaa.Q
