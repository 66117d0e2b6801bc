-- PRINTED by print.py out of the translation. Not trusted: Lean checks it.
import Derived.Test.YtgnahbjpockdmaaPrs
import Derived.Test.YtgnahbjpockdmaaQ0
import Derived.Test.YtgnahbjpockdmaaQ40
import Derived.Test.YtgnahbjpockdmaaQ42
import Derived.Test.YtgnahbjpockdmaaQ3
import Derived.Test.YtgnahbjpockdmaaQ13
namespace Go.Proofs.Ytgnahbjpockdmaa.Q
open Go.RowKit Go.Proofs.YtgnahbjpockdmaaPrs Go.Proofs.YtgnahbjpockdmaaOwn Go.Proofs.YtgnahbjpockdmaaW.PrintWords Go.Proofs.YtgnahbjpockdmaaW.PrintLast Go.Proofs.YtgnahbjpockdmaaW.PrintMore
open List renaming setIfInBounds_toArray → sI_, set_cons_zero → s0_, set_cons_succ → sS_
attribute [local go_sem] max2_int min2_int max_two min_two max_three min_three max_four min_four   -- for this text's walks alone
set_option linter.unusedVariables false
set_option linter.unusedSimpArgs false

/-! ### hinterlandref14_Worth: function 28 -/
def hinterlandref14_Worth.l0 : Nat → List (S54) → Int → List Int → Int → Int → List Int → List Int → Int → Int → Int → Int → List (S69) → Option (Int × Int)
  | 0, _, _, _, _, _, _, _, _, _, _, _, _ => none
  | k + 1, x0, x7, x17, x18, x19, x437000, x437001, x437002, x437003, x437004, x437005, x437006 => if x19 < x18 then (if 0 ≤ x19 then (if x19 < (x17.length : Int) then (if 0 ≤ (rd x17 x19) then (if (rd x17 x19) < (x0.length : Int) then ((hinterlandref14_value.f ((rd_T54 x0 (rd x17 x19)).f0) ((rd_T54 x0 (rd x17 x19)).f1) ((rd_T54 x0 (rd x17 x19)).f2) ((rd_T54 x0 (rd x17 x19)).f3) ((rd_T54 x0 (rd x17 x19)).f4) ((rd_T54 x0 (rd x17 x19)).f5) ((rd_T54 x0 (rd x17 x19)).f6) ((rd_T54 x0 (rd x17 x19)).f7) ((rd_T54 x0 (rd x17 x19)).f8) ((rd_T54 x0 (rd x17 x19)).f9) ((rd_T54 x0 (rd x17 x19)).f10) ((rd_T54 x0 (rd x17 x19)).f11) ((rd_T54 x0 (rd x17 x19)).f12) ((rd_T54 x0 (rd x17 x19)).f13) x437002).bind fun t440 => (hinterlandref14_Worth.l0 k x0 (wrap64 (x7 + t440)) x17 x18 (wrap64 (x19 + 1)) x437000 x437001 x437002 x437003 x437004 x437005 x437006)) else (none)) else (none)) else (none)) else (none)) else (some (x7, 0))
def hinterlandref14_Worth.f (k : Nat) (l0 : List (S54)) (l1_0 : List Int) (l1_1 : List Int) (a1_2 : Int) (a1_3 : Int) (a1_4 : Int) (a1_5 : Int) (l1_6 : List (S69)) : Option (Int × Int) := (hinterlandref14_Validate.f k l0 l1_0 l1_1 a1_2 a1_3 a1_4 a1_5 l1_6).bind fun t437 => (if t437 = 0 then (hinterlandref14_Worth.l0 k l0 0 l1_0 (l1_0.length : Int) 0 l1_0 l1_1 a1_2 a1_3 a1_4 a1_5 l1_6) else (some (0, t437)))
theorem hinterlandref14_Worth.mono_l : ∀ k, (∀ y0 y1 y2 y3 y4 y5 y6 y7 y8 y9 y10 y11, LeO (hinterlandref14_Worth.l0 k y0 y1 y2 y3 y4 y5 y6 y7 y8 y9 y10 y11) (hinterlandref14_Worth.l0 (k + 1) y0 y1 y2 y3 y4 y5 y6 y7 y8 y9 y10 y11))
  | 0 => fun _ _ _ _ _ _ _ _ _ _ _ _ r h => by simp [hinterlandref14_Worth.l0] at h
  | k + 1 => by
    have ih0 := hinterlandref14_Worth.mono_l k
    · intro y0 y1 y2 y3 y4 y5 y6 y7 y8 y9 y10 y11
      unfold hinterlandref14_Worth.l0
      repeat' first
      | (with_reducible exact ih0 _ _ _ _ _ _ _ _ _ _ _ _)
      | (with_reducible exact hinterlandref14_Validate.mono _ _ _ _ _ _ _ _ _)
      | (with_reducible exact LeO.refl _)
      | (with_reducible exact LeO.none _)
      | (with_reducible refine LeO.ite ?_ ?_)
      | (with_reducible refine LeO.bind ?_ (fun _ => ?_))
      | exact ih0 _ _ _ _ _ _ _ _ _ _ _ _
      | exact hinterlandref14_Validate.mono _ _ _ _ _ _ _ _ _
      | exact LeO.none _
      | refine LeO.ite ?_ ?_
      | refine LeO.bind ?_ (fun _ => ?_)
theorem hinterlandref14_Worth.mono : ∀ a0 a1 a2 a3 a4 a5 a6 a7 k, LeO (hinterlandref14_Worth.f k a0 a1 a2 a3 a4 a5 a6 a7) (hinterlandref14_Worth.f (k + 1) a0 a1 a2 a3 a4 a5 a6 a7) := by
  intro a0 a1 a2 a3 a4 a5 a6 a7 k
  have ih0 := hinterlandref14_Worth.mono_l k
  unfold hinterlandref14_Worth.f
  repeat' first
      | (with_reducible exact ih0 _ _ _ _ _ _ _ _ _ _ _ _)
      | (with_reducible exact hinterlandref14_Validate.mono _ _ _ _ _ _ _ _ _)
      | (with_reducible exact LeO.refl _)
      | (with_reducible exact LeO.none _)
      | (with_reducible refine LeO.ite ?_ ?_)
      | (with_reducible refine LeO.bind ?_ (fun _ => ?_))
      | exact ih0 _ _ _ _ _ _ _ _ _ _ _ _
      | exact hinterlandref14_Validate.mono _ _ _ _ _ _ _ _ _
      | exact LeO.none _
      | refine LeO.ite ?_ ?_
      | refine LeO.bind ?_ (fun _ => ?_)
def hinterlandref14_Worth.T8 : Bool × List (List Nat × List Nat) := (true, [([], []), ([], []), ([], []), ([1, 2], [1, 2]), ([3], [3]), ([], []), ([5], [5]), ([4, 6], [4, 6]), ([0, 7], [0, 7]), ([8, 7, 0, 1, 2, 3, 4, 5, 6, 7, 8], [0, 8])])
def hinterlandref14_Worth.B8 : List Nat := [0, 0, 0, 6, 14, 0, 32, 126, 255, 511]
theorem hinterlandref14_Worth.tab8 : rtab .any (opsOf Try.f28 8) = hinterlandref14_Worth.T8 := by kernel_rfl
theorem hinterlandref14_Worth.bits8 : waitsOk hinterlandref14_Worth.T8.2 hinterlandref14_Worth.B8 = true := by kernel_rfl
set_option maxHeartbeats 8000000 in
set_option maxRecDepth 100000 in
theorem hinterlandref14_Worth.calls (k : Nat) (A0 : Option Addr) (c0 : Nat) (l0 : List (S54)) (A1_0 : Option Addr) (c1_0 : Nat) (l1_0 : List Int) (A1_1 : Option Addr) (c1_1 : Nat) (l1_1 : List Int) (a1_2 : Int) (a1_3 : Int) (a1_4 : Int) (a1_5 : Int) (A1_6 : Option Addr) (c1_6 : Nat) (l1_6 : List (S69)) (r1 : Int) (r2 : Int) (w : World) (hr0 : Kd.C k54 w A0 l0.length l0) (hc0 : l0.length ≤ c0) (hr1_0 : Kd.C (Kd.int .i64) w A1_0 l1_0.length l1_0) (hc1_0 : l1_0.length ≤ c1_0) (hr1_1 : Kd.C (Kd.int .i64) w A1_1 l1_1.length l1_1) (hc1_1 : l1_1.length ≤ c1_1) (hr1_6 : Kd.C k69 w A1_6 l1_6.length l1_6) (hc1_6 : l1_6.length ≤ c1_6) (h : hinterlandref14_Worth.f k l0 l1_0 l1_1 a1_2 a1_3 a1_4 a1_5 l1_6 = some (r1, r2)) :
    Calls Try.prog 28 #[.slice A0 l0.length c0, .agg #[.slice A1_0 l1_0.length c1_0, .slice A1_1 l1_1.length c1_1, .int .i64 a1_2, .int .i64 a1_3, .int .i64 a1_4, .int .i64 a1_5, .slice A1_6 l1_6.length c1_6]] w fun e w' => e = .returned (.tuple #[.int .i64 r1, .int .i64 r2]) ∧ Below w.heap.size w w' := by
 have hu27 := Try.underlying27
 have hu54 := Try.underlying54
 have HR0 := Aside0.mk hr0
 have HC0 := Aside0.mk hc0
 clear hr0 hc0
 have HR1_0 := Aside0.mk hr1_0
 have HC1_0 := Aside0.mk hc1_0
 clear hr1_0 hc1_0
 have HR1_1 := Aside0.mk hr1_1
 have HC1_1 := Aside0.mk hc1_1
 clear hr1_1 hc1_1
 have HR1_6 := Aside0.mk hr1_6
 have HC1_6 := Aside0.mk hc1_6
 clear hr1_6 hc1_6
 have HB := Aside0.mk (Below.refl w.heap.size w)
 have H : ((hinterlandref14_Validate.f k l0 l1_0 l1_1 a1_2 a1_3 a1_4 a1_5 l1_6).bind fun t437 => (if t437 = 0 then (hinterlandref14_Worth.l0 k l0 0 l1_0 (l1_0.length : Int) 0 l1_0 l1_1 a1_2 a1_3 a1_4 a1_5 l1_6) else (some (0, t437)))) = some (r1, r2) := h
 clear h
 replace H := Option.bind_eq_some_iff.mp H
 obtain ⟨t437, A30, H⟩ := H
 replace H : (if t437 = 0 then (hinterlandref14_Worth.l0 k l0 0 l1_0 (l1_0.length : Int) 0 l1_0 l1_1 a1_2 a1_3 a1_4 a1_5 l1_6) else (some (0, t437))) = some (r1, r2) := H
 have A3 := Aside0.mk A30
 clear A30
 by_cases c4 : t437 = 0
 ·rw [if_pos c4] at H
  have c4b0 : (t437 == 0) = true := beq_iff_eq.mpr c4
  have c4b1 : (t437 != 0) = false := bne_eq_false_iff_eq.mpr c4
  clear c4
  have H' := Aside0.mk H
  clear H
  go_enter Try.func28, Try.ntmps28
  go_wp2_with (first | ((with_reducible refine gate_dst (N := 3) rfl ?_); refine box_event ?hg (N := 3) ?hd (cs := #[.slice A1_0 l1_0.length c1_0, .slice A1_1 l1_1.length c1_1, .int .i64 a1_2, .int .i64 a1_3, .int .i64 a1_4, .int .i64 a1_5, .slice A1_6 l1_6.length c1_6]) (t := 27) ?hr ?_; (case hd => rfl); (case hg => rfl); (case hr => first | (go_simp; done) | (go_simp; rfl)); intro gb436 hg w5 hbox hb; have n0_ := Aside0.mk (below_step (dL_ HB) hb); have n1_ := Aside0.mk (hbox); have n2_ := Aside0.mk ((dS_ hg (dL_ HB) : w.heap.size ≤ gb436)); have n3_ := Aside0.mk ((dS_ hg (dL_ HB) : w.heap.size ≤ gb436)); clear HB; have HB := n0_; have BK436 := n1_; have GW436 := n2_; have GE436 := n3_; clear n0_ n1_ n2_ n3_; clear hb hbox hg; obtain ⟨hcz6_0, hcz6_1, hcz6_2, hcz6_3, hcz6_4, hcz6_5, hcz6_6, hfz6_0, hfz6_1, hfz6_2, hfz6_3, hfz6_4, hfz6_5, hfz6_6⟩ := cs7_ BK436.out) | ((with_reducible refine gate_callee (f := 26) rfl ?_); refine goesL_ (some 12) rfl rfl Try.func26 (by kernel_rfl) rfl #[.slice A0 l0.length c0, .agg #[.slice A1_0 l1_0.length c1_0, .slice A1_1 l1_1.length c1_1, .int .i64 a1_2, .int .i64 a1_3, .int .i64 a1_4, .int .i64 a1_5, .slice A1_6 l1_6.length c1_6]] rfl tA_ ?_; (with_reducible refine (hinterlandref14_Validate.calls k _ _ l0 _ _ l1_0 _ _ l1_1 a1_2 a1_3 a1_4 a1_5 _ _ l1_6 t437 _ ?side1 ?side2 ?side3 ?side4 ?side5 ?side6 ?side7 ?side8 A3.out).mono ?_); (case side1 => exact dC_ HR0 HB); (case side2 => exact HC0.out); (case side3 => exact dC_ HR1_0 HB); (case side4 => exact HC1_0.out); (case side5 => exact dC_ HR1_1 HB); (case side6 => exact HC1_1.out); (case side7 => exact dC_ HR1_6 HB); (case side8 => exact HC1_6.out); rintro e w7 ⟨rfl, hb⟩; refine ⟨_, rfl, ?_⟩; have n0_ := Aside0.mk (bb_ BK436 hb); have n1_ := Aside0.mk (below_step (dL1_ HB GE436) hb); clear BK436; clear HB; have BK436 := n0_; have HB := n1_; clear n0_ n1_; (try clear hb); (try clear hb2); (try clear hk); (try clear hi); obtain ⟨hcz8_0, hcz8_1, hcz8_2, hcz8_3, hcz8_4, hcz8_5, hcz8_6, hfz8_0, hfz8_1, hfz8_2, hfz8_3, hfz8_4, hfz8_5, hfz8_6⟩ := cs7_ BK436.out))
  go_loopg [7, 19] k (fun kq v7 v19 w' => ∃ (x7_1 : Int) (x19_1 : Int), v7 = .int .i64 x7_1 ∧ v19 = .int .i64 x19_1 ∧ Aside0 (hinterlandref14_Worth.l0 kq l0 x7_1 l1_0 (l1_0.length : Int) x19_1 l1_0 l1_1 a1_2 a1_3 a1_4 a1_5 l1_6 = some (r1, r2)) ∧ Aside0 (kq ≤ k) ∧ Aside0 (w'.heap[gb436]? = some (.cells #[(.slice A1_0 l1_0.length c1_0), (.slice A1_1 l1_1.length c1_1), .int .i64 a1_2, .int .i64 a1_3, .int .i64 a1_4, .int .i64 a1_5, (.slice A1_6 l1_6.length c1_6)] 27 (0, 0))) ∧ Aside0 (Below w.heap.size w w'))
  case atStart => exact ⟨(0), (0), tS_, tS_, H', ⟨Nat.le_refl _⟩, ⟨dB_ BK436⟩, ⟨dL1_ HB GE436⟩⟩
  case round =>
   clear H'
   try clear c4
   try clear c4b0
   try clear c4b1
   try clear hcz6_0
   try clear hcz6_1
   try clear hcz6_2
   try clear hcz6_3
   try clear hcz6_4
   try clear hcz6_5
   try clear hcz6_6
   try clear hcz8_0
   try clear hcz8_1
   try clear hcz8_2
   try clear hcz8_3
   try clear hcz8_4
   try clear hcz8_5
   try clear hcz8_6
   try clear hfz6_0
   try clear hfz6_1
   try clear hfz6_2
   try clear hfz6_3
   try clear hfz6_4
   try clear hfz6_5
   try clear hfz6_6
   try clear hfz8_0
   try clear hfz8_1
   try clear hfz8_2
   try clear hfz8_3
   try clear hfz8_4
   try clear hfz8_5
   try clear hfz8_6
   obtain ⟨x7_1, x19_1, rfl, rfl, HA, HK1, BK436, HB⟩ := hrel
   cases gk with
   | zero => exact absurd HA.out (by simp [hinterlandref14_Worth.l0])
   | succ k1 =>
    have H := HA.out
    clear HA
    simp only [hinterlandref14_Worth.l0] at H
    by_cases c9 : x19_1 < (l1_0.length : Int)
    ·rw [if_pos c9] at H
     have c9b0 : decide (x19_1 < (l1_0.length : Int)) = true := decide_eq_true c9
     clear c9
     by_cases c10 : 0 ≤ x19_1
     ·rw [if_pos c10] at H
      have c10b0 : decide (0 ≤ x19_1) = true := decide_eq_true c10
      clear c10
      by_cases c11 : x19_1 < (l1_0.length : Int)
      ·rw [if_pos c11] at H
       have c11b0 : decide (x19_1 < (l1_0.length : Int)) = true := decide_eq_true c11
       clear c11
       by_cases c12 : 0 ≤ (rd l1_0 x19_1)
       ·rw [if_pos c12] at H
        have c12b0 : decide (0 ≤ (rd l1_0 x19_1)) = true := decide_eq_true c12
        clear c12
        by_cases c13 : (rd l1_0 x19_1) < (l0.length : Int)
        ·rw [if_pos c13] at H
         have c13b0 : decide ((rd l1_0 x19_1) < (l0.length : Int)) = true := decide_eq_true c13
         clear c13
         replace H := Option.bind_eq_some_iff.mp H
         obtain ⟨t440, A140, H⟩ := H
         replace H : (hinterlandref14_Worth.l0 k1 l0 (wrap64 (x7_1 + t440)) l1_0 (l1_0.length : Int) (wrap64 (x19_1 + 1)) l1_0 l1_1 a1_2 a1_3 a1_4 a1_5 l1_6) = some (r1, r2) := H
         have A14 := Aside0.mk A140
         clear A140
         have H' := Aside0.mk H
         clear H
         have p438 : 0 ≤ (x19_1 : Int) := of_decide_eq_true tW_
         have q438 : x19_1 < (l1_0.length : Int) := of_decide_eq_true tW_
         obtain ⟨ad438, e438, hx438_0⟩ := Kd.at_int HR1_0.out x19_1 p438 q438
         cases e438
         replace hx438_0 := bc_ HB hx438_0
         replace p438 := eq_true p438
         replace q438 := eq_true q438
         try go_wp2
         have n0_ := Aside0.mk (blk_drew BK436.out)
         have n1_ := Aside0.mk (below_drew1 HB.out)
         clear BK436
         clear HB
         have BK436 := n0_
         have HB := n1_
         clear n0_ n1_
         have p439 : 0 ≤ ((rd l1_0 x19_1) : Int) := of_decide_eq_true tW_
         have q439 : (rd l1_0 x19_1) < (l0.length : Int) := of_decide_eq_true tW_
         obtain ⟨ad439, e439, hx439_0, hx439_1, hx439_2, hx439_3, hx439_4, hx439_5, hx439_6, hx439_7, hx439_8, hx439_9, hx439_10, hx439_11, hx439_12, hx439_13⟩ := at_T54 HR0.out (rd l1_0 x19_1) p439 q439
         have hw439_13 := hx439_13
         have hw439_12 := hx439_12
         have hw439_11 := hx439_11
         have hw439_10 := hx439_10
         have hw439_9 := hx439_9
         have hw439_8 := hx439_8
         have hw439_7 := hx439_7
         have hw439_6 := hx439_6
         have hw439_5 := hx439_5
         have hw439_4 := hx439_4
         have hw439_3 := hx439_3
         have hw439_2 := hx439_2
         have hw439_1 := hx439_1
         have hw439_0 := hx439_0
         cases e439
         replace hx439_0 := bc_ HB hx439_0
         replace hx439_1 := bc_ HB hx439_1
         replace hx439_2 := bc_ HB hx439_2
         replace hx439_3 := bc_ HB hx439_3
         replace hx439_4 := bc_ HB hx439_4
         replace hx439_5 := bc_ HB hx439_5
         replace hx439_6 := bc_ HB hx439_6
         replace hx439_7 := bc_ HB hx439_7
         replace hx439_8 := bc_ HB hx439_8
         replace hx439_9 := bc_ HB hx439_9
         replace hx439_10 := bc_ HB hx439_10
         replace hx439_11 := bc_ HB hx439_11
         replace hx439_12 := bc_ HB hx439_12
         replace hx439_13 := bc_ HB hx439_13
         replace p439 := eq_true p439
         replace q439 := eq_true q439
         refine start_ (n := 10) (S := fun w' => w'.cell? ⟨gb436, 0, none⟩ = some (.slice (some ad438) l1_0.length c1_0) ∧ w'.cell? ⟨gb436, 1, none⟩ = some (.slice A1_1 l1_1.length c1_1) ∧ w'.cell? ⟨gb436, 2, none⟩ = some (.int .i64 a1_2) ∧ w'.cell? ⟨gb436, 3, none⟩ = some (.int .i64 a1_3) ∧ w'.cell? ⟨gb436, 4, none⟩ = some (.int .i64 a1_4) ∧ w'.cell? ⟨gb436, 5, none⟩ = some (.int .i64 a1_5) ∧ w'.cell? ⟨gb436, 6, none⟩ = some (.slice A1_6 l1_6.length c1_6) ∧ w'.cell? (ad439.add (((rd l1_0 x19_1)).toNat * 14)) = some (.string ((rd_T54 l0 (rd l1_0 x19_1)).f0)) ∧ w'.cell? ⟨(ad439.add (((rd l1_0 x19_1)).toNat * 14)).block, (ad439.add (((rd l1_0 x19_1)).toNat * 14)).off + 1, none⟩ = some (.int .i64 ((rd_T54 l0 (rd l1_0 x19_1)).f1)) ∧ w'.cell? ⟨(ad439.add (((rd l1_0 x19_1)).toNat * 14)).block, (ad439.add (((rd l1_0 x19_1)).toNat * 14)).off + 2, none⟩ = some (.int .i64 ((rd_T54 l0 (rd l1_0 x19_1)).f2)) ∧ w'.cell? ⟨(ad439.add (((rd l1_0 x19_1)).toNat * 14)).block, (ad439.add (((rd l1_0 x19_1)).toNat * 14)).off + 3, none⟩ = some (.int .i64 ((rd_T54 l0 (rd l1_0 x19_1)).f3)) ∧ w'.cell? ⟨(ad439.add (((rd l1_0 x19_1)).toNat * 14)).block, (ad439.add (((rd l1_0 x19_1)).toNat * 14)).off + 4, none⟩ = some (.int .i64 ((rd_T54 l0 (rd l1_0 x19_1)).f4)) ∧ w'.cell? ⟨(ad439.add (((rd l1_0 x19_1)).toNat * 14)).block, (ad439.add (((rd l1_0 x19_1)).toNat * 14)).off + 5, none⟩ = some (.int .i64 ((rd_T54 l0 (rd l1_0 x19_1)).f5)) ∧ w'.cell? ⟨(ad439.add (((rd l1_0 x19_1)).toNat * 14)).block, (ad439.add (((rd l1_0 x19_1)).toNat * 14)).off + 6, none⟩ = some (.int .i64 ((rd_T54 l0 (rd l1_0 x19_1)).f6)) ∧ w'.cell? ⟨(ad439.add (((rd l1_0 x19_1)).toNat * 14)).block, (ad439.add (((rd l1_0 x19_1)).toNat * 14)).off + 7, none⟩ = some (.int .i64 ((rd_T54 l0 (rd l1_0 x19_1)).f7)) ∧ w'.cell? ⟨(ad439.add (((rd l1_0 x19_1)).toNat * 14)).block, (ad439.add (((rd l1_0 x19_1)).toNat * 14)).off + 8, none⟩ = some (.int .i64 ((rd_T54 l0 (rd l1_0 x19_1)).f8)) ∧ w'.cell? ⟨(ad439.add (((rd l1_0 x19_1)).toNat * 14)).block, (ad439.add (((rd l1_0 x19_1)).toNat * 14)).off + 9, none⟩ = some (.int .i64 ((rd_T54 l0 (rd l1_0 x19_1)).f9)) ∧ w'.cell? ⟨(ad439.add (((rd l1_0 x19_1)).toNat * 14)).block, (ad439.add (((rd l1_0 x19_1)).toNat * 14)).off + 10, none⟩ = some (.int .i64 ((rd_T54 l0 (rd l1_0 x19_1)).f10)) ∧ w'.cell? ⟨(ad439.add (((rd l1_0 x19_1)).toNat * 14)).block, (ad439.add (((rd l1_0 x19_1)).toNat * 14)).off + 11, none⟩ = some (.int .i64 ((rd_T54 l0 (rd l1_0 x19_1)).f11)) ∧ w'.cell? ⟨(ad439.add (((rd l1_0 x19_1)).toNat * 14)).block, (ad439.add (((rd l1_0 x19_1)).toNat * 14)).off + 12, none⟩ = some (.int .i64 ((rd_T54 l0 (rd l1_0 x19_1)).f12)) ∧ w'.cell? ⟨(ad439.add (((rd l1_0 x19_1)).toNat * 14)).block, (ad439.add (((rd l1_0 x19_1)).toNat * 14)).off + 13, none⟩ = some (.bool ((rd_T54 l0 (rd l1_0 x19_1)).f13))) (ds := []) #[false, false, false, false, false, false, false, false, false, false] (by kernel_rfl) rfl rfl ⟨(blk_cell BK436.out 0).trans rfl, (blk_cell BK436.out 1).trans rfl, (blk_cell BK436.out 2).trans rfl, (blk_cell BK436.out 3).trans rfl, (blk_cell BK436.out 4).trans rfl, (blk_cell BK436.out 5).trans rfl, (blk_cell BK436.out 6).trans rfl, ((HB.out.cell (World.block_lt_of_cell? w _ hw439_0)).trans hw439_0), ((HB.out.cell (World.block_lt_of_cell? w _ hw439_1)).trans hw439_1), ((HB.out.cell (World.block_lt_of_cell? w _ hw439_2)).trans hw439_2), ((HB.out.cell (World.block_lt_of_cell? w _ hw439_3)).trans hw439_3), ((HB.out.cell (World.block_lt_of_cell? w _ hw439_4)).trans hw439_4), ((HB.out.cell (World.block_lt_of_cell? w _ hw439_5)).trans hw439_5), ((HB.out.cell (World.block_lt_of_cell? w _ hw439_6)).trans hw439_6), ((HB.out.cell (World.block_lt_of_cell? w _ hw439_7)).trans hw439_7), ((HB.out.cell (World.block_lt_of_cell? w _ hw439_8)).trans hw439_8), ((HB.out.cell (World.block_lt_of_cell? w _ hw439_9)).trans hw439_9), ((HB.out.cell (World.block_lt_of_cell? w _ hw439_10)).trans hw439_10), ((HB.out.cell (World.block_lt_of_cell? w _ hw439_11)).trans hw439_11), ((HB.out.cell (World.block_lt_of_cell? w _ hw439_12)).trans hw439_12), ((HB.out.cell (World.block_lt_of_cell? w _ hw439_13)).trans hw439_13)⟩ (fun hHeld => ?_); refine with_tabW hinterlandref14_Worth.tab8 hinterlandref14_Worth.bits8 (fun HT_ HW_ => ?_)
         generalize wr.drew = w15 at BK436 HB hx439_0 hx439_1 hx439_10 hx439_11 hx439_12 hx439_13 hx439_2 hx439_3 hx439_4 hx439_5 hx439_6 hx439_7 hx439_8 hx439_9 hHeld ⊢
         refine pure_ (i := 0) (N := some 23) (v := ?_) (a' := ?_) #[true, false, false, false, false, false, false, false, false, false] rfl rfl (any_of HT_.out (by kernel_rfl)) (fun _ _ _ h => h) (Or.inl ⟨by rfl, ?_⟩) ?_ ?_
         rotate_left
         ·intro w'
          go_simp
          with_reducible rfl
         rotate_left
         ·simp only [Act.put, sI_, s0_, sS_, i64_w, i32_w]
          rfl
         refine pure_ (i := 1) (N := some 24) (v := ?_) (a' := ?_) #[true, true, false, false, false, false, false, false, false, false] rfl rfl (any_of HT_.out (by kernel_rfl)) (fun _ _ _ h => h) (Or.inl ⟨by rfl, ?_⟩) ?_ ?_
         rotate_left
         ·intro w'
          go_simp
          with_reducible rfl
         rotate_left
         ·simp only [Act.put, sI_, s0_, sS_, i64_w, i32_w]
          rfl
         refine pure_ (i := 2) (N := some 25) (v := ?_) (a' := ?_) #[true, true, true, false, false, false, false, false, false, false] rfl rfl (any_of HT_.out (by kernel_rfl)) (fun _ _ _ h => h) (Or.inl ⟨by rfl, ?_⟩) ?_ ?_
         rotate_left
         ·intro w'
          go_simp
          with_reducible rfl
         rotate_left
         ·simp only [Act.put, sI_, s0_, sS_, i64_w, i32_w]
          rfl
         refine pure_ (i := 3) (N := some 26) (v := ?_) (a' := ?_) #[true, true, true, true, false, false, false, false, false, false] rfl rfl (any_of HT_.out (by kernel_rfl)) (fun _ _ _ h => h) (Or.inl ⟨by rfl, ?_⟩) ?_ ?_
         rotate_left
         ·intro w'
          go_simp
          with_reducible rfl
         rotate_left
         ·simp only [Act.put, sI_, s0_, sS_, i64_w, i32_w]
          rfl
         refine pure_ (i := 5) (N := some 28) (v := ?_) (a' := ?_) #[true, true, true, true, false, true, false, false, false, false] rfl rfl (any_of HT_.out (by kernel_rfl)) (fun _ _ _ h => h) (Or.inl ⟨by rfl, ?_⟩) ?_ ?_
         rotate_left
         ·intro w'
          go_simp
          with_reducible rfl
         rotate_left
         ·simp only [Act.put, sI_, s0_, sS_, i64_w, i32_w]
          rfl
         refine take_ (i := 4) (N := some 27) (v := ?_) (a' := ?_) #[true, true, true, true, true, true, false, false, false, false] rfl rfl (take_ofW HT_.out HW_.out (by kernel_rfl)) (fun _ _ _ h => h) (Or.inl ⟨by rfl, ?_⟩) hHeld ?_ ?_
         rotate_left
         ·rintro w' ⟨s0, s1, s2, s3, s4, s5, s6, s7, s8, s9, s10, s11, s12, s13, s14, s15, s16, s17, s18, s19, s20⟩
          go_simp
          with_reducible rfl
         rotate_left
         ·simp only [Act.put, sI_, s0_, sS_, i64_w, i32_w]
          rfl
         refine take_ (i := 6) (N := some 29) (v := ?_) (a' := ?_) #[true, true, true, true, true, true, true, false, false, false] rfl rfl (take_ofW HT_.out HW_.out (by kernel_rfl)) (fun _ _ _ h => h) (Or.inl ⟨by rfl, ?_⟩) hHeld ?_ ?_
         rotate_left
         ·rintro w' ⟨s0, s1, s2, s3, s4, s5, s6, s7, s8, s9, s10, s11, s12, s13, s14, s15, s16, s17, s18, s19, s20⟩
          go_simp
          with_reducible rfl
         rotate_left
         ·simp only [Act.put, sI_, s0_, sS_, i64_w, i32_w]
          rfl
         refine one_ (i := 7) (N := some 30) #[true, true, true, true, true, true, true, true, false, false] rfl rfl (one_of HT_.out (by kernel_rfl)) (by decide) (fun K hK => ?_)
         refine goes_ Try.func46 (by kernel_rfl) rfl #[.agg #[.string ((rd_T54 l0 (rd l1_0 x19_1)).f0), .int .i64 ((rd_T54 l0 (rd l1_0 x19_1)).f1), .int .i64 ((rd_T54 l0 (rd l1_0 x19_1)).f2), .int .i64 ((rd_T54 l0 (rd l1_0 x19_1)).f3), .int .i64 ((rd_T54 l0 (rd l1_0 x19_1)).f4), .int .i64 ((rd_T54 l0 (rd l1_0 x19_1)).f5), .int .i64 ((rd_T54 l0 (rd l1_0 x19_1)).f6), .int .i64 ((rd_T54 l0 (rd l1_0 x19_1)).f7), .int .i64 ((rd_T54 l0 (rd l1_0 x19_1)).f8), .int .i64 ((rd_T54 l0 (rd l1_0 x19_1)).f9), .int .i64 ((rd_T54 l0 (rd l1_0 x19_1)).f10), .int .i64 ((rd_T54 l0 (rd l1_0 x19_1)).f11), .int .i64 ((rd_T54 l0 (rd l1_0 x19_1)).f12), .bool ((rd_T54 l0 (rd l1_0 x19_1)).f13)], .int .i64 a1_2] (by rfl) rfl rfl tA_ ?_
         with_reducible refine (hinterlandref14_value.calls ((rd_T54 l0 (rd l1_0 x19_1)).f0) ((rd_T54 l0 (rd l1_0 x19_1)).f1) ((rd_T54 l0 (rd l1_0 x19_1)).f2) ((rd_T54 l0 (rd l1_0 x19_1)).f3) ((rd_T54 l0 (rd l1_0 x19_1)).f4) ((rd_T54 l0 (rd l1_0 x19_1)).f5) ((rd_T54 l0 (rd l1_0 x19_1)).f6) ((rd_T54 l0 (rd l1_0 x19_1)).f7) ((rd_T54 l0 (rd l1_0 x19_1)).f8) ((rd_T54 l0 (rd l1_0 x19_1)).f9) ((rd_T54 l0 (rd l1_0 x19_1)).f10) ((rd_T54 l0 (rd l1_0 x19_1)).f11) ((rd_T54 l0 (rd l1_0 x19_1)).f12) ((rd_T54 l0 (rd l1_0 x19_1)).f13) a1_2 t440 _ A14.out).mono ?_
         rintro e w16 ⟨rfl, hb⟩
         refine ⟨_, rfl, ?_⟩
         have n0_ := Aside0.mk (bb_ BK436 hb)
         have n1_ := Aside0.mk (below_step (dL1_ HB GE436) hb)
         clear BK436
         clear HB
         have BK436 := n0_
         have HB := n1_
         clear n0_ n1_
         (try clear hb)
         (try clear hb2)
         (try clear hk)
         (try clear hi)
         refine hK.out _ _ ⟨(blk_cell BK436.out 0).trans rfl, (blk_cell BK436.out 1).trans rfl, (blk_cell BK436.out 2).trans rfl, (blk_cell BK436.out 3).trans rfl, (blk_cell BK436.out 4).trans rfl, (blk_cell BK436.out 5).trans rfl, (blk_cell BK436.out 6).trans rfl, ((HB.out.cell (World.block_lt_of_cell? w _ hw439_0)).trans hw439_0), ((HB.out.cell (World.block_lt_of_cell? w _ hw439_1)).trans hw439_1), ((HB.out.cell (World.block_lt_of_cell? w _ hw439_2)).trans hw439_2), ((HB.out.cell (World.block_lt_of_cell? w _ hw439_3)).trans hw439_3), ((HB.out.cell (World.block_lt_of_cell? w _ hw439_4)).trans hw439_4), ((HB.out.cell (World.block_lt_of_cell? w _ hw439_5)).trans hw439_5), ((HB.out.cell (World.block_lt_of_cell? w _ hw439_6)).trans hw439_6), ((HB.out.cell (World.block_lt_of_cell? w _ hw439_7)).trans hw439_7), ((HB.out.cell (World.block_lt_of_cell? w _ hw439_8)).trans hw439_8), ((HB.out.cell (World.block_lt_of_cell? w _ hw439_9)).trans hw439_9), ((HB.out.cell (World.block_lt_of_cell? w _ hw439_10)).trans hw439_10), ((HB.out.cell (World.block_lt_of_cell? w _ hw439_11)).trans hw439_11), ((HB.out.cell (World.block_lt_of_cell? w _ hw439_12)).trans hw439_12), ((HB.out.cell (World.block_lt_of_cell? w _ hw439_13)).trans hw439_13)⟩ (fun hHeld => ?_)
         clear hK K
         refine norm_ (a' := ?_) ?_ ?_
         rotate_left
         ·show Act.put _ (some 30) _ = _
          simp only [Act.put, sI_, s0_, sS_, i64_w, i32_w]
          rfl
         refine pure_ (i := 8) (N := some 31) (v := ?_) (a' := ?_) #[true, true, true, true, true, true, true, true, true, false] rfl rfl (any_of HT_.out (by kernel_rfl)) (fun _ _ _ h => h) (Or.inl ⟨by rfl, ?_⟩) ?_ ?_
         rotate_left
         ·intro w'
          go_simp
          with_reducible rfl
         rotate_left
         ·simp only [Act.put, sI_, s0_, sS_, i64_w, i32_w]
          rfl
         refine pure_ (i := 9) (N := some 7) (v := ?_) (a' := ?_) #[true, true, true, true, true, true, true, true, true, true] rfl rfl (any_of HT_.out (by kernel_rfl)) (fun _ _ _ h => h) (Or.inl ⟨by rfl, ?_⟩) ?_ ?_
         rotate_left
         ·intro w'
          go_simp
          with_reducible rfl
         rotate_left
         ·simp only [Act.put, sI_, s0_, sS_, i64_w, i32_w]
          rfl
         refine done_ (done_of HT_.out (by kernel_rfl)) ?_
         try go_wp2
         go_roundg k1
         case measure => have := HK1.out; omega
         case rel => exact ⟨(wrap64 (x7_1 + t440)), (wrap64 (x19_1 + 1)), tS_, tS_, H', ⟨by have := HK1.out; omega⟩, ⟨dB_ BK436⟩, ⟨dL1_ HB GE436⟩⟩
        ·rw [if_neg c13] at H
         exact absurd H (by simp)
       ·rw [if_neg c12] at H
        exact absurd H (by simp)
      ·rw [if_neg c11] at H
       exact absurd H (by simp)
     ·rw [if_neg c10] at H
      exact absurd H (by simp)
    ·rw [if_neg c9] at H
     have c9b0 : decide (x19_1 < (l1_0.length : Int)) = false := decide_eq_false c9
     clear c9
     simp only [Option.some.injEq, Prod.mk.injEq] at H
     obtain ⟨rfl, rfl⟩ := H
     go_wp2
     go_ret2
     exact ⟨tE_, dL1_ HB GE436⟩
 ·rw [if_neg c4] at H
  have c4b0 : (t437 == 0) = false := beq_eq_false_iff_ne.mpr c4
  have c4b1 : (t437 != 0) = true := bne_iff_ne.mpr c4
  simp only [Option.some.injEq, Prod.mk.injEq] at H
  obtain ⟨rfl, rfl⟩ := H
  go_enter Try.func28, Try.ntmps28
  go_wp2_with (first | ((with_reducible refine gate_dst (N := 3) rfl ?_); refine box_event ?hg (N := 3) ?hd (cs := #[.slice A1_0 l1_0.length c1_0, .slice A1_1 l1_1.length c1_1, .int .i64 a1_2, .int .i64 a1_3, .int .i64 a1_4, .int .i64 a1_5, .slice A1_6 l1_6.length c1_6]) (t := 27) ?hr ?_; (case hd => rfl); (case hg => rfl); (case hr => first | (go_simp; done) | (go_simp; rfl)); intro gb436 hg w17 hbox hb; have n0_ := Aside0.mk (below_step (dL_ HB) hb); have n1_ := Aside0.mk (hbox); have n2_ := Aside0.mk ((dS_ hg (dL_ HB) : w.heap.size ≤ gb436)); have n3_ := Aside0.mk ((dS_ hg (dL_ HB) : w.heap.size ≤ gb436)); clear HB; have HB := n0_; have BK436 := n1_; have GW436 := n2_; have GE436 := n3_; clear n0_ n1_ n2_ n3_; clear hb hbox hg; obtain ⟨hcz18_0, hcz18_1, hcz18_2, hcz18_3, hcz18_4, hcz18_5, hcz18_6, hfz18_0, hfz18_1, hfz18_2, hfz18_3, hfz18_4, hfz18_5, hfz18_6⟩ := cs7_ BK436.out) | ((with_reducible refine gate_callee (f := 26) rfl ?_); refine goesL_ (some 12) rfl rfl Try.func26 (by kernel_rfl) rfl #[.slice A0 l0.length c0, .agg #[.slice A1_0 l1_0.length c1_0, .slice A1_1 l1_1.length c1_1, .int .i64 a1_2, .int .i64 a1_3, .int .i64 a1_4, .int .i64 a1_5, .slice A1_6 l1_6.length c1_6]] rfl tA_ ?_; (with_reducible refine (hinterlandref14_Validate.calls k _ _ l0 _ _ l1_0 _ _ l1_1 a1_2 a1_3 a1_4 a1_5 _ _ l1_6 t437 _ ?side1 ?side2 ?side3 ?side4 ?side5 ?side6 ?side7 ?side8 A3.out).mono ?_); (case side1 => exact dC_ HR0 HB); (case side2 => exact HC0.out); (case side3 => exact dC_ HR1_0 HB); (case side4 => exact HC1_0.out); (case side5 => exact dC_ HR1_1 HB); (case side6 => exact HC1_1.out); (case side7 => exact dC_ HR1_6 HB); (case side8 => exact HC1_6.out); rintro e w19 ⟨rfl, hb⟩; refine ⟨_, rfl, ?_⟩; have n0_ := Aside0.mk (bb_ BK436 hb); have n1_ := Aside0.mk (below_step (dL1_ HB GE436) hb); clear BK436; clear HB; have BK436 := n0_; have HB := n1_; clear n0_ n1_; (try clear hb); (try clear hb2); (try clear hk); (try clear hi)))
  go_ret2
  exact ⟨tE_, dL1_ HB GE436⟩

end Go.Proofs.Ytgnahbjpockdmaa.Q
namespace Go.Proofs.Ytgnahbjpockdmaa.Q
open Go.RowKit Go.Proofs.YtgnahbjpockdmaaPrs Go.Proofs.YtgnahbjpockdmaaOwn Go.Proofs.YtgnahbjpockdmaaW.PrintWords Go.Proofs.YtgnahbjpockdmaaW.PrintLast Go.Proofs.YtgnahbjpockdmaaW.PrintMore
attribute [local go_sem] max2_int min2_int max_two min_two max_three min_three max_four min_four   -- for this text's walks alone
set_option linter.unusedVariables false
set_option linter.unusedSimpArgs false

/-! ### hinterlandlaw14_FleetWorths: function 10 -/
def hinterlandlaw14_FleetWorths.f (k : Nat) (l0 : List (S54)) (l1_0 : List Int) (l1_1 : List Int) (a1_2 : Int) (a1_3 : Int) (a1_4 : Int) (a1_5 : Int) (l1_6 : List (S69)) : Option (Bool) := (hinterlandlaw14_large.f k l0 l1_0 l1_1 a1_2 a1_3 a1_4 a1_5 l1_6).bind fun t442 => (if t442 = true then ((hinterlandlaw14_known.f k).bind fun t443 => (some t443)) else ((fleet_Worth.f k l0 l1_0 l1_1 a1_2 a1_3 a1_4 a1_5 l1_6).bind fun bt444 => ((hinterlandref14_Worth.f k l0 l1_0 l1_1 a1_2 a1_3 a1_4 a1_5 l1_6).bind fun bt446 => (if bt444.1 = bt446.1 then (if bt444.2 = bt446.2 then ((hinterlandlaw14_known.f k).bind fun t448 => (some t448)) else (some false)) else (some false)))))
theorem hinterlandlaw14_FleetWorths.mono : ∀ a0 a1 a2 a3 a4 a5 a6 a7 k, LeO (hinterlandlaw14_FleetWorths.f k a0 a1 a2 a3 a4 a5 a6 a7) (hinterlandlaw14_FleetWorths.f (k + 1) a0 a1 a2 a3 a4 a5 a6 a7) := by
  intro a0 a1 a2 a3 a4 a5 a6 a7 k
  unfold hinterlandlaw14_FleetWorths.f
  repeat' first
      | (with_reducible exact fleet_Worth.mono _ _ _ _ _ _ _ _ _)
      | (with_reducible exact hinterlandlaw14_known.mono _)
      | (with_reducible exact hinterlandlaw14_large.mono _ _ _ _ _ _ _ _ _)
      | (with_reducible exact hinterlandref14_Worth.mono _ _ _ _ _ _ _ _ _)
      | (with_reducible exact LeO.refl _)
      | (with_reducible exact LeO.none _)
      | (with_reducible refine LeO.ite ?_ ?_)
      | (with_reducible refine LeO.bind ?_ (fun _ => ?_))
      | exact fleet_Worth.mono _ _ _ _ _ _ _ _ _
      | exact hinterlandlaw14_known.mono _
      | exact hinterlandlaw14_large.mono _ _ _ _ _ _ _ _ _
      | exact hinterlandref14_Worth.mono _ _ _ _ _ _ _ _ _
      | exact LeO.none _
      | refine LeO.ite ?_ ?_
      | refine LeO.bind ?_ (fun _ => ?_)
set_option maxHeartbeats 8000000 in
set_option maxRecDepth 100000 in
theorem hinterlandlaw14_FleetWorths.calls (k : Nat) (A0 : Option Addr) (c0 : Nat) (l0 : List (S54)) (A1_0 : Option Addr) (c1_0 : Nat) (l1_0 : List Int) (A1_1 : Option Addr) (c1_1 : Nat) (l1_1 : List Int) (a1_2 : Int) (a1_3 : Int) (a1_4 : Int) (a1_5 : Int) (A1_6 : Option Addr) (c1_6 : Nat) (l1_6 : List (S69)) (r : Bool) (w : World) (hr0 : Kd.C k54 w A0 l0.length l0) (hc0 : l0.length ≤ c0) (hr1_0 : Kd.C (Kd.int .i64) w A1_0 l1_0.length l1_0) (hc1_0 : l1_0.length ≤ c1_0) (hr1_1 : Kd.C (Kd.int .i64) w A1_1 l1_1.length l1_1) (hc1_1 : l1_1.length ≤ c1_1) (hr1_6 : Kd.C k69 w A1_6 l1_6.length l1_6) (hc1_6 : l1_6.length ≤ c1_6) (h : hinterlandlaw14_FleetWorths.f k l0 l1_0 l1_1 a1_2 a1_3 a1_4 a1_5 l1_6 = some r) :
    Calls Try.prog 10 #[.slice A0 l0.length c0, .agg #[.slice A1_0 l1_0.length c1_0, .slice A1_1 l1_1.length c1_1, .int .i64 a1_2, .int .i64 a1_3, .int .i64 a1_4, .int .i64 a1_5, .slice A1_6 l1_6.length c1_6]] w fun e w' => e = .returned (.bool r) ∧ Below w.heap.size w w' := by
 have hu27 := Try.underlying27
 have HR0 := Aside0.mk hr0
 have HC0 := Aside0.mk hc0
 clear hr0 hc0
 have HR1_0 := Aside0.mk hr1_0
 have HC1_0 := Aside0.mk hc1_0
 clear hr1_0 hc1_0
 have HR1_1 := Aside0.mk hr1_1
 have HC1_1 := Aside0.mk hc1_1
 clear hr1_1 hc1_1
 have HR1_6 := Aside0.mk hr1_6
 have HC1_6 := Aside0.mk hc1_6
 clear hr1_6 hc1_6
 have HB := Aside0.mk (Below.refl w.heap.size w)
 have H : ((hinterlandlaw14_large.f k l0 l1_0 l1_1 a1_2 a1_3 a1_4 a1_5 l1_6).bind fun t442 => (if t442 = true then ((hinterlandlaw14_known.f k).bind fun t443 => (some t443)) else ((fleet_Worth.f k l0 l1_0 l1_1 a1_2 a1_3 a1_4 a1_5 l1_6).bind fun bt444 => ((hinterlandref14_Worth.f k l0 l1_0 l1_1 a1_2 a1_3 a1_4 a1_5 l1_6).bind fun bt446 => (if bt444.1 = bt446.1 then (if bt444.2 = bt446.2 then ((hinterlandlaw14_known.f k).bind fun t448 => (some t448)) else (some false)) else (some false)))))) = some r := h
 clear h
 replace H := Option.bind_eq_some_iff.mp H
 obtain ⟨t442, A30, H⟩ := H
 replace H : (if t442 = true then ((hinterlandlaw14_known.f k).bind fun t443 => (some t443)) else ((fleet_Worth.f k l0 l1_0 l1_1 a1_2 a1_3 a1_4 a1_5 l1_6).bind fun bt444 => ((hinterlandref14_Worth.f k l0 l1_0 l1_1 a1_2 a1_3 a1_4 a1_5 l1_6).bind fun bt446 => (if bt444.1 = bt446.1 then (if bt444.2 = bt446.2 then ((hinterlandlaw14_known.f k).bind fun t448 => (some t448)) else (some false)) else (some false))))) = some r := H
 have A3 := Aside0.mk A30
 clear A30
 by_cases c4 : t442 = true
 ·subst c4
  have H1 : ((hinterlandlaw14_known.f k).bind fun t443 => (some t443)) = some r := by rw [if_pos rfl] at H; exact H
  clear H
  have H := H1
  clear H1
  replace H := Option.bind_eq_some_iff.mp H
  obtain ⟨t443, A50, H⟩ := H
  replace H : (some t443) = some r := H
  have A5 := Aside0.mk A50
  clear A50
  obtain rfl := Option.some.inj H
  go_enter Try.func10, Try.ntmps10
  go_wp2_with (first | ((with_reducible refine gate_dst (N := 3) rfl ?_); refine box_event ?hg (N := 3) ?hd (cs := #[.slice A1_0 l1_0.length c1_0, .slice A1_1 l1_1.length c1_1, .int .i64 a1_2, .int .i64 a1_3, .int .i64 a1_4, .int .i64 a1_5, .slice A1_6 l1_6.length c1_6]) (t := 27) ?hr ?_; (case hd => rfl); (case hg => rfl); (case hr => first | (go_simp; done) | (go_simp; rfl)); intro gb441 hg w6 hbox hb; have n0_ := Aside0.mk (below_step (dL_ HB) hb); have n1_ := Aside0.mk (hbox); have n2_ := Aside0.mk ((dS_ hg (dL_ HB) : w.heap.size ≤ gb441)); have n3_ := Aside0.mk ((dS_ hg (dL_ HB) : w.heap.size ≤ gb441)); clear HB; have HB := n0_; have BK441 := n1_; have GW441 := n2_; have GE441 := n3_; clear n0_ n1_ n2_ n3_; clear hb hbox hg; obtain ⟨hcz7_0, hcz7_1, hcz7_2, hcz7_3, hcz7_4, hcz7_5, hcz7_6, hfz7_0, hfz7_1, hfz7_2, hfz7_3, hfz7_4, hfz7_5, hfz7_6⟩ := cs7_ BK441.out) | ((with_reducible refine gate_callee (f := 15) rfl ?_); refine goesL_ (some 11) rfl rfl Try.func15 (by kernel_rfl) rfl #[.slice A0 l0.length c0, .agg #[.slice A1_0 l1_0.length c1_0, .slice A1_1 l1_1.length c1_1, .int .i64 a1_2, .int .i64 a1_3, .int .i64 a1_4, .int .i64 a1_5, .slice A1_6 l1_6.length c1_6]] rfl tA_ ?_; (with_reducible refine (hinterlandlaw14_large.calls k _ _ l0 _ _ l1_0 _ _ l1_1 a1_2 a1_3 a1_4 a1_5 _ _ l1_6 true _ ?side1 ?side2 ?side3 ?side4 ?side5 ?side6 ?side7 ?side8 A3.out).mono ?_); (case side1 => exact dC_ HR0 HB); (case side2 => exact HC0.out); (case side3 => exact dC_ HR1_0 HB); (case side4 => exact HC1_0.out); (case side5 => exact dC_ HR1_1 HB); (case side6 => exact HC1_1.out); (case side7 => exact dC_ HR1_6 HB); (case side8 => exact HC1_6.out); rintro e w8 ⟨rfl, hb⟩; refine ⟨_, rfl, ?_⟩; have n0_ := Aside0.mk (bb_ BK441 hb); have n1_ := Aside0.mk (below_step (dL1_ HB GE441) hb); clear BK441; clear HB; have BK441 := n0_; have HB := n1_; clear n0_ n1_; (try clear hb); (try clear hb2); (try clear hk); (try clear hi)) | ((with_reducible refine gate_callee (f := 16) rfl ?_); refine goesL_ (some 12) rfl rfl Try.func16 (by kernel_rfl) rfl #[] rfl tA_ ?_; (with_reducible refine (hinterlandlaw14_known.calls k  t443 _ A5.out).mono ?_); rintro e w9 ⟨rfl, hb⟩; refine ⟨_, rfl, ?_⟩; have n0_ := Aside0.mk (bb_ BK441 hb); have n1_ := Aside0.mk (below_step (dL1_ HB GE441) hb); clear BK441; clear HB; have BK441 := n0_; have HB := n1_; clear n0_ n1_; (try clear hb); (try clear hb2); (try clear hk); (try clear hi)))
  go_ret
  exact ⟨tE_, dL1_ HB GE441⟩
 ·replace c4 := Bool.eq_false_iff.mpr c4
  subst c4
  have H1 : ((fleet_Worth.f k l0 l1_0 l1_1 a1_2 a1_3 a1_4 a1_5 l1_6).bind fun bt444 => ((hinterlandref14_Worth.f k l0 l1_0 l1_1 a1_2 a1_3 a1_4 a1_5 l1_6).bind fun bt446 => (if bt444.1 = bt446.1 then (if bt444.2 = bt446.2 then ((hinterlandlaw14_known.f k).bind fun t448 => (some t448)) else (some false)) else (some false)))) = some r := by rw [if_neg (show ¬ (false = true) by decide)] at H; exact H
  clear H
  have H := H1
  clear H1
  replace H := Option.bind_eq_some_iff.mp H
  obtain ⟨⟨t444, t445⟩, A100, H⟩ := H
  replace H : ((hinterlandref14_Worth.f k l0 l1_0 l1_1 a1_2 a1_3 a1_4 a1_5 l1_6).bind fun bt446 => (if t444 = bt446.1 then (if t445 = bt446.2 then ((hinterlandlaw14_known.f k).bind fun t448 => (some t448)) else (some false)) else (some false))) = some r := H
  have A10 := Aside0.mk A100
  clear A100
  replace H := Option.bind_eq_some_iff.mp H
  obtain ⟨⟨t446, t447⟩, A110, H⟩ := H
  replace H : (if t444 = t446 then (if t445 = t447 then ((hinterlandlaw14_known.f k).bind fun t448 => (some t448)) else (some false)) else (some false)) = some r := H
  have A11 := Aside0.mk A110
  clear A110
  by_cases c12 : t444 = t446
  ·rw [if_pos c12] at H
   have c12b0 : (t444 == t446) = true := beq_iff_eq.mpr c12
   have c12b1 : (t444 != t446) = false := bne_eq_false_iff_eq.mpr c12
   clear c12
   by_cases c13 : t445 = t447
   ·rw [if_pos c13] at H
    have c13b0 : (t445 == t447) = true := beq_iff_eq.mpr c13
    have c13b1 : (t445 != t447) = false := bne_eq_false_iff_eq.mpr c13
    clear c13
    replace H := Option.bind_eq_some_iff.mp H
    obtain ⟨t448, A140, H⟩ := H
    replace H : (some t448) = some r := H
    have A14 := Aside0.mk A140
    clear A140
    obtain rfl := Option.some.inj H
    go_enter Try.func10, Try.ntmps10
    go_wp2_with (first | ((with_reducible refine gate_dst (N := 3) rfl ?_); refine box_event ?hg (N := 3) ?hd (cs := #[.slice A1_0 l1_0.length c1_0, .slice A1_1 l1_1.length c1_1, .int .i64 a1_2, .int .i64 a1_3, .int .i64 a1_4, .int .i64 a1_5, .slice A1_6 l1_6.length c1_6]) (t := 27) ?hr ?_; (case hd => rfl); (case hg => rfl); (case hr => first | (go_simp; done) | (go_simp; rfl)); intro gb441 hg w15 hbox hb; have n0_ := Aside0.mk (below_step (dL_ HB) hb); have n1_ := Aside0.mk (hbox); have n2_ := Aside0.mk ((dS_ hg (dL_ HB) : w.heap.size ≤ gb441)); have n3_ := Aside0.mk ((dS_ hg (dL_ HB) : w.heap.size ≤ gb441)); clear HB; have HB := n0_; have BK441 := n1_; have GW441 := n2_; have GE441 := n3_; clear n0_ n1_ n2_ n3_; clear hb hbox hg; obtain ⟨hcz16_0, hcz16_1, hcz16_2, hcz16_3, hcz16_4, hcz16_5, hcz16_6, hfz16_0, hfz16_1, hfz16_2, hfz16_3, hfz16_4, hfz16_5, hfz16_6⟩ := cs7_ BK441.out) | ((with_reducible refine gate_callee (f := 15) rfl ?_); refine goesL_ (some 11) rfl rfl Try.func15 (by kernel_rfl) rfl #[.slice A0 l0.length c0, .agg #[.slice A1_0 l1_0.length c1_0, .slice A1_1 l1_1.length c1_1, .int .i64 a1_2, .int .i64 a1_3, .int .i64 a1_4, .int .i64 a1_5, .slice A1_6 l1_6.length c1_6]] rfl tA_ ?_; (with_reducible refine (hinterlandlaw14_large.calls k _ _ l0 _ _ l1_0 _ _ l1_1 a1_2 a1_3 a1_4 a1_5 _ _ l1_6 false _ ?side1 ?side2 ?side3 ?side4 ?side5 ?side6 ?side7 ?side8 A3.out).mono ?_); (case side1 => exact dC_ HR0 HB); (case side2 => exact HC0.out); (case side3 => exact dC_ HR1_0 HB); (case side4 => exact HC1_0.out); (case side5 => exact dC_ HR1_1 HB); (case side6 => exact HC1_1.out); (case side7 => exact dC_ HR1_6 HB); (case side8 => exact HC1_6.out); rintro e w17 ⟨rfl, hb⟩; refine ⟨_, rfl, ?_⟩; have n0_ := Aside0.mk (bb_ BK441 hb); have n1_ := Aside0.mk (below_step (dL1_ HB GE441) hb); clear BK441; clear HB; have BK441 := n0_; have HB := n1_; clear n0_ n1_; (try clear hb); (try clear hb2); (try clear hk); (try clear hi); obtain ⟨hcz18_0, hcz18_1, hcz18_2, hcz18_3, hcz18_4, hcz18_5, hcz18_6, hfz18_0, hfz18_1, hfz18_2, hfz18_3, hfz18_4, hfz18_5, hfz18_6⟩ := cs7_ BK441.out) | ((with_reducible refine gate_callee (f := 27) rfl ?_); refine goesL_ (some 16) rfl rfl Try.func27 (by kernel_rfl) rfl #[.slice A0 l0.length c0, .agg #[.slice A1_0 l1_0.length c1_0, .slice A1_1 l1_1.length c1_1, .int .i64 a1_2, .int .i64 a1_3, .int .i64 a1_4, .int .i64 a1_5, .slice A1_6 l1_6.length c1_6]] rfl tA_ ?_; (with_reducible refine (fleet_Worth.calls k _ _ l0 _ _ l1_0 _ _ l1_1 a1_2 a1_3 a1_4 a1_5 _ _ l1_6 t444 t445 _ ?side1 ?side2 ?side3 ?side4 ?side5 ?side6 ?side7 ?side8 A10.out).mono ?_); (case side1 => exact dC_ HR0 HB); (case side2 => exact HC0.out); (case side3 => exact dC_ HR1_0 HB); (case side4 => exact HC1_0.out); (case side5 => exact dC_ HR1_1 HB); (case side6 => exact HC1_1.out); (case side7 => exact dC_ HR1_6 HB); (case side8 => exact HC1_6.out); rintro e w19 ⟨rfl, hb⟩; refine ⟨_, rfl, ?_⟩; have n0_ := Aside0.mk (bb_ BK441 hb); have n1_ := Aside0.mk (below_step (dL1_ HB GE441) hb); clear BK441; clear HB; have BK441 := n0_; have HB := n1_; clear n0_ n1_; (try clear hb); (try clear hb2); (try clear hk); (try clear hi); obtain ⟨hcz20_0, hcz20_1, hcz20_2, hcz20_3, hcz20_4, hcz20_5, hcz20_6, hfz20_0, hfz20_1, hfz20_2, hfz20_3, hfz20_4, hfz20_5, hfz20_6⟩ := cs7_ BK441.out) | ((with_reducible refine gate_callee (f := 28) rfl ?_); refine goesL_ (some 22) rfl rfl Try.func28 (by kernel_rfl) rfl #[.slice A0 l0.length c0, .agg #[.slice A1_0 l1_0.length c1_0, .slice A1_1 l1_1.length c1_1, .int .i64 a1_2, .int .i64 a1_3, .int .i64 a1_4, .int .i64 a1_5, .slice A1_6 l1_6.length c1_6]] rfl tA_ ?_; (with_reducible refine (hinterlandref14_Worth.calls k _ _ l0 _ _ l1_0 _ _ l1_1 a1_2 a1_3 a1_4 a1_5 _ _ l1_6 t446 t447 _ ?side1 ?side2 ?side3 ?side4 ?side5 ?side6 ?side7 ?side8 A11.out).mono ?_); (case side1 => exact dC_ HR0 HB); (case side2 => exact HC0.out); (case side3 => exact dC_ HR1_0 HB); (case side4 => exact HC1_0.out); (case side5 => exact dC_ HR1_1 HB); (case side6 => exact HC1_1.out); (case side7 => exact dC_ HR1_6 HB); (case side8 => exact HC1_6.out); rintro e w21 ⟨rfl, hb⟩; refine ⟨_, rfl, ?_⟩; have n0_ := Aside0.mk (bb_ BK441 hb); have n1_ := Aside0.mk (below_step (dL1_ HB GE441) hb); clear BK441; clear HB; have BK441 := n0_; have HB := n1_; clear n0_ n1_; (try clear hb); (try clear hb2); (try clear hk); (try clear hi)) | (go_at_call 16; (with_reducible refine (hinterlandlaw14_known.calls k  t448 _ A14.out).mono ?_); rintro e w22 ⟨rfl, hb⟩; have n0_ := Aside0.mk (bb_ BK441 hb); have n1_ := Aside0.mk (below_step (dL1_ HB GE441) hb); clear BK441; clear HB; have BK441 := n0_; have HB := n1_; clear n0_ n1_; (try clear hb); (try clear hb2); (try clear hk); (try clear hi)))
    go_ret
    exact ⟨tE_, dL1_ HB GE441⟩
   ·rw [if_neg c13] at H
    have c13b0 : (t445 == t447) = false := beq_eq_false_iff_ne.mpr c13
    have c13b1 : (t445 != t447) = true := bne_iff_ne.mpr c13
    obtain rfl := Option.some.inj H
    go_enter Try.func10, Try.ntmps10
    go_wp2_with (first | ((with_reducible refine gate_dst (N := 3) rfl ?_); refine box_event ?hg (N := 3) ?hd (cs := #[.slice A1_0 l1_0.length c1_0, .slice A1_1 l1_1.length c1_1, .int .i64 a1_2, .int .i64 a1_3, .int .i64 a1_4, .int .i64 a1_5, .slice A1_6 l1_6.length c1_6]) (t := 27) ?hr ?_; (case hd => rfl); (case hg => rfl); (case hr => first | (go_simp; done) | (go_simp; rfl)); intro gb441 hg w23 hbox hb; have n0_ := Aside0.mk (below_step (dL_ HB) hb); have n1_ := Aside0.mk (hbox); have n2_ := Aside0.mk ((dS_ hg (dL_ HB) : w.heap.size ≤ gb441)); have n3_ := Aside0.mk ((dS_ hg (dL_ HB) : w.heap.size ≤ gb441)); clear HB; have HB := n0_; have BK441 := n1_; have GW441 := n2_; have GE441 := n3_; clear n0_ n1_ n2_ n3_; clear hb hbox hg; obtain ⟨hcz24_0, hcz24_1, hcz24_2, hcz24_3, hcz24_4, hcz24_5, hcz24_6, hfz24_0, hfz24_1, hfz24_2, hfz24_3, hfz24_4, hfz24_5, hfz24_6⟩ := cs7_ BK441.out) | ((with_reducible refine gate_callee (f := 15) rfl ?_); refine goesL_ (some 11) rfl rfl Try.func15 (by kernel_rfl) rfl #[.slice A0 l0.length c0, .agg #[.slice A1_0 l1_0.length c1_0, .slice A1_1 l1_1.length c1_1, .int .i64 a1_2, .int .i64 a1_3, .int .i64 a1_4, .int .i64 a1_5, .slice A1_6 l1_6.length c1_6]] rfl tA_ ?_; (with_reducible refine (hinterlandlaw14_large.calls k _ _ l0 _ _ l1_0 _ _ l1_1 a1_2 a1_3 a1_4 a1_5 _ _ l1_6 false _ ?side1 ?side2 ?side3 ?side4 ?side5 ?side6 ?side7 ?side8 A3.out).mono ?_); (case side1 => exact dC_ HR0 HB); (case side2 => exact HC0.out); (case side3 => exact dC_ HR1_0 HB); (case side4 => exact HC1_0.out); (case side5 => exact dC_ HR1_1 HB); (case side6 => exact HC1_1.out); (case side7 => exact dC_ HR1_6 HB); (case side8 => exact HC1_6.out); rintro e w25 ⟨rfl, hb⟩; refine ⟨_, rfl, ?_⟩; have n0_ := Aside0.mk (bb_ BK441 hb); have n1_ := Aside0.mk (below_step (dL1_ HB GE441) hb); clear BK441; clear HB; have BK441 := n0_; have HB := n1_; clear n0_ n1_; (try clear hb); (try clear hb2); (try clear hk); (try clear hi); obtain ⟨hcz26_0, hcz26_1, hcz26_2, hcz26_3, hcz26_4, hcz26_5, hcz26_6, hfz26_0, hfz26_1, hfz26_2, hfz26_3, hfz26_4, hfz26_5, hfz26_6⟩ := cs7_ BK441.out) | ((with_reducible refine gate_callee (f := 27) rfl ?_); refine goesL_ (some 16) rfl rfl Try.func27 (by kernel_rfl) rfl #[.slice A0 l0.length c0, .agg #[.slice A1_0 l1_0.length c1_0, .slice A1_1 l1_1.length c1_1, .int .i64 a1_2, .int .i64 a1_3, .int .i64 a1_4, .int .i64 a1_5, .slice A1_6 l1_6.length c1_6]] rfl tA_ ?_; (with_reducible refine (fleet_Worth.calls k _ _ l0 _ _ l1_0 _ _ l1_1 a1_2 a1_3 a1_4 a1_5 _ _ l1_6 t444 t445 _ ?side1 ?side2 ?side3 ?side4 ?side5 ?side6 ?side7 ?side8 A10.out).mono ?_); (case side1 => exact dC_ HR0 HB); (case side2 => exact HC0.out); (case side3 => exact dC_ HR1_0 HB); (case side4 => exact HC1_0.out); (case side5 => exact dC_ HR1_1 HB); (case side6 => exact HC1_1.out); (case side7 => exact dC_ HR1_6 HB); (case side8 => exact HC1_6.out); rintro e w27 ⟨rfl, hb⟩; refine ⟨_, rfl, ?_⟩; have n0_ := Aside0.mk (bb_ BK441 hb); have n1_ := Aside0.mk (below_step (dL1_ HB GE441) hb); clear BK441; clear HB; have BK441 := n0_; have HB := n1_; clear n0_ n1_; (try clear hb); (try clear hb2); (try clear hk); (try clear hi); obtain ⟨hcz28_0, hcz28_1, hcz28_2, hcz28_3, hcz28_4, hcz28_5, hcz28_6, hfz28_0, hfz28_1, hfz28_2, hfz28_3, hfz28_4, hfz28_5, hfz28_6⟩ := cs7_ BK441.out) | ((with_reducible refine gate_callee (f := 28) rfl ?_); refine goesL_ (some 22) rfl rfl Try.func28 (by kernel_rfl) rfl #[.slice A0 l0.length c0, .agg #[.slice A1_0 l1_0.length c1_0, .slice A1_1 l1_1.length c1_1, .int .i64 a1_2, .int .i64 a1_3, .int .i64 a1_4, .int .i64 a1_5, .slice A1_6 l1_6.length c1_6]] rfl tA_ ?_; (with_reducible refine (hinterlandref14_Worth.calls k _ _ l0 _ _ l1_0 _ _ l1_1 a1_2 a1_3 a1_4 a1_5 _ _ l1_6 t446 t447 _ ?side1 ?side2 ?side3 ?side4 ?side5 ?side6 ?side7 ?side8 A11.out).mono ?_); (case side1 => exact dC_ HR0 HB); (case side2 => exact HC0.out); (case side3 => exact dC_ HR1_0 HB); (case side4 => exact HC1_0.out); (case side5 => exact dC_ HR1_1 HB); (case side6 => exact HC1_1.out); (case side7 => exact dC_ HR1_6 HB); (case side8 => exact HC1_6.out); rintro e w29 ⟨rfl, hb⟩; refine ⟨_, rfl, ?_⟩; have n0_ := Aside0.mk (bb_ BK441 hb); have n1_ := Aside0.mk (below_step (dL1_ HB GE441) hb); clear BK441; clear HB; have BK441 := n0_; have HB := n1_; clear n0_ n1_; (try clear hb); (try clear hb2); (try clear hk); (try clear hi)))
    go_ret
    exact ⟨tE_, dL1_ HB GE441⟩
  ·rw [if_neg c12] at H
   have c12b0 : (t444 == t446) = false := beq_eq_false_iff_ne.mpr c12
   have c12b1 : (t444 != t446) = true := bne_iff_ne.mpr c12
   obtain rfl := Option.some.inj H
   go_enter Try.func10, Try.ntmps10
   go_wp2_with (first | ((with_reducible refine gate_dst (N := 3) rfl ?_); refine box_event ?hg (N := 3) ?hd (cs := #[.slice A1_0 l1_0.length c1_0, .slice A1_1 l1_1.length c1_1, .int .i64 a1_2, .int .i64 a1_3, .int .i64 a1_4, .int .i64 a1_5, .slice A1_6 l1_6.length c1_6]) (t := 27) ?hr ?_; (case hd => rfl); (case hg => rfl); (case hr => first | (go_simp; done) | (go_simp; rfl)); intro gb441 hg w30 hbox hb; have n0_ := Aside0.mk (below_step (dL_ HB) hb); have n1_ := Aside0.mk (hbox); have n2_ := Aside0.mk ((dS_ hg (dL_ HB) : w.heap.size ≤ gb441)); have n3_ := Aside0.mk ((dS_ hg (dL_ HB) : w.heap.size ≤ gb441)); clear HB; have HB := n0_; have BK441 := n1_; have GW441 := n2_; have GE441 := n3_; clear n0_ n1_ n2_ n3_; clear hb hbox hg; obtain ⟨hcz31_0, hcz31_1, hcz31_2, hcz31_3, hcz31_4, hcz31_5, hcz31_6, hfz31_0, hfz31_1, hfz31_2, hfz31_3, hfz31_4, hfz31_5, hfz31_6⟩ := cs7_ BK441.out) | ((with_reducible refine gate_callee (f := 15) rfl ?_); refine goesL_ (some 11) rfl rfl Try.func15 (by kernel_rfl) rfl #[.slice A0 l0.length c0, .agg #[.slice A1_0 l1_0.length c1_0, .slice A1_1 l1_1.length c1_1, .int .i64 a1_2, .int .i64 a1_3, .int .i64 a1_4, .int .i64 a1_5, .slice A1_6 l1_6.length c1_6]] rfl tA_ ?_; (with_reducible refine (hinterlandlaw14_large.calls k _ _ l0 _ _ l1_0 _ _ l1_1 a1_2 a1_3 a1_4 a1_5 _ _ l1_6 false _ ?side1 ?side2 ?side3 ?side4 ?side5 ?side6 ?side7 ?side8 A3.out).mono ?_); (case side1 => exact dC_ HR0 HB); (case side2 => exact HC0.out); (case side3 => exact dC_ HR1_0 HB); (case side4 => exact HC1_0.out); (case side5 => exact dC_ HR1_1 HB); (case side6 => exact HC1_1.out); (case side7 => exact dC_ HR1_6 HB); (case side8 => exact HC1_6.out); rintro e w32 ⟨rfl, hb⟩; refine ⟨_, rfl, ?_⟩; have n0_ := Aside0.mk (bb_ BK441 hb); have n1_ := Aside0.mk (below_step (dL1_ HB GE441) hb); clear BK441; clear HB; have BK441 := n0_; have HB := n1_; clear n0_ n1_; (try clear hb); (try clear hb2); (try clear hk); (try clear hi); obtain ⟨hcz33_0, hcz33_1, hcz33_2, hcz33_3, hcz33_4, hcz33_5, hcz33_6, hfz33_0, hfz33_1, hfz33_2, hfz33_3, hfz33_4, hfz33_5, hfz33_6⟩ := cs7_ BK441.out) | ((with_reducible refine gate_callee (f := 27) rfl ?_); refine goesL_ (some 16) rfl rfl Try.func27 (by kernel_rfl) rfl #[.slice A0 l0.length c0, .agg #[.slice A1_0 l1_0.length c1_0, .slice A1_1 l1_1.length c1_1, .int .i64 a1_2, .int .i64 a1_3, .int .i64 a1_4, .int .i64 a1_5, .slice A1_6 l1_6.length c1_6]] rfl tA_ ?_; (with_reducible refine (fleet_Worth.calls k _ _ l0 _ _ l1_0 _ _ l1_1 a1_2 a1_3 a1_4 a1_5 _ _ l1_6 t444 t445 _ ?side1 ?side2 ?side3 ?side4 ?side5 ?side6 ?side7 ?side8 A10.out).mono ?_); (case side1 => exact dC_ HR0 HB); (case side2 => exact HC0.out); (case side3 => exact dC_ HR1_0 HB); (case side4 => exact HC1_0.out); (case side5 => exact dC_ HR1_1 HB); (case side6 => exact HC1_1.out); (case side7 => exact dC_ HR1_6 HB); (case side8 => exact HC1_6.out); rintro e w34 ⟨rfl, hb⟩; refine ⟨_, rfl, ?_⟩; have n0_ := Aside0.mk (bb_ BK441 hb); have n1_ := Aside0.mk (below_step (dL1_ HB GE441) hb); clear BK441; clear HB; have BK441 := n0_; have HB := n1_; clear n0_ n1_; (try clear hb); (try clear hb2); (try clear hk); (try clear hi); obtain ⟨hcz35_0, hcz35_1, hcz35_2, hcz35_3, hcz35_4, hcz35_5, hcz35_6, hfz35_0, hfz35_1, hfz35_2, hfz35_3, hfz35_4, hfz35_5, hfz35_6⟩ := cs7_ BK441.out) | ((with_reducible refine gate_callee (f := 28) rfl ?_); refine goesL_ (some 22) rfl rfl Try.func28 (by kernel_rfl) rfl #[.slice A0 l0.length c0, .agg #[.slice A1_0 l1_0.length c1_0, .slice A1_1 l1_1.length c1_1, .int .i64 a1_2, .int .i64 a1_3, .int .i64 a1_4, .int .i64 a1_5, .slice A1_6 l1_6.length c1_6]] rfl tA_ ?_; (with_reducible refine (hinterlandref14_Worth.calls k _ _ l0 _ _ l1_0 _ _ l1_1 a1_2 a1_3 a1_4 a1_5 _ _ l1_6 t446 t447 _ ?side1 ?side2 ?side3 ?side4 ?side5 ?side6 ?side7 ?side8 A11.out).mono ?_); (case side1 => exact dC_ HR0 HB); (case side2 => exact HC0.out); (case side3 => exact dC_ HR1_0 HB); (case side4 => exact HC1_0.out); (case side5 => exact dC_ HR1_1 HB); (case side6 => exact HC1_1.out); (case side7 => exact dC_ HR1_6 HB); (case side8 => exact HC1_6.out); rintro e w36 ⟨rfl, hb⟩; refine ⟨_, rfl, ?_⟩; have n0_ := Aside0.mk (bb_ BK441 hb); have n1_ := Aside0.mk (below_step (dL1_ HB GE441) hb); clear BK441; clear HB; have BK441 := n0_; have HB := n1_; clear n0_ n1_; (try clear hb); (try clear hb2); (try clear hk); (try clear hi)))
   go_ret
   exact ⟨tE_, dL1_ HB GE441⟩

/-- THE ONE PURE STATEMENT of hinterlandlaw14_FleetWorths. -/
def hinterlandlaw14_FleetWorths.Pure : Prop := ∀ (l0 : List (S54)) (l1_0 : List Int) (l1_1 : List Int) (a1_2 : Int) (a1_3 : Int) (a1_4 : Int) (a1_5 : Int) (l1_6 : List (S69)), (wRow wT54) l0 → (wRow (wInt .i64)) l1_0 → (wRow (wInt .i64)) l1_1 → (wInt .i64) a1_2 → (wInt .i64) a1_3 → (wInt .i64) a1_4 → (wInt .i64) a1_5 → (wRow wT69) l1_6 → ∃ k, hinterlandlaw14_FleetWorths.f k l0 l1_0 l1_1 a1_2 a1_3 a1_4 a1_5 l1_6 = some true

end Go.Proofs.Ytgnahbjpockdmaa.Q
