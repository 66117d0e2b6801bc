-- PRINTED by print.py out of the translation. Not trusted: Lean checks it.
import Derived.Test.YtgnahbjpockdmaaPrs
import Derived.Test.YtgnahbjpockdmaaQ0
import Derived.Test.YtgnahbjpockdmaaQ13
import Derived.Test.YtgnahbjpockdmaaQ19
import Derived.Test.YtgnahbjpockdmaaQ36
namespace Go.Proofs.Ytgnahbjpockdmaa.Q
open Go.RowKit Go.Proofs.YtgnahbjpockdmaaPrs Go.Proofs.YtgnahbjpockdmaaOwn Go.Proofs.YtgnahbjpockdmaaW.PrintWords Go.Proofs.YtgnahbjpockdmaaW.PrintLast Go.Proofs.YtgnahbjpockdmaaW.PrintMore
attribute [local go_sem] max2_int min2_int max_two min_two max_three min_three max_four min_four   -- for this text's walks alone
set_option linter.unusedVariables false
set_option linter.unusedSimpArgs false

/-! ### hinterlandref14_Validate: function 26 -/
mutual
def hinterlandref14_Validate.l0 : Nat → List (S54) → List Int → Int → Int → List Int → List Int → Int → Int → Int → Int → List (S69) → Option (Int)
  | 0, _, _, _, _, _, _, _, _, _, _, _ => none
  | k + 1, x0, x23, x24, x25, x413000, x413001, x413002, x413003, x413004, x413005, x413006 => if x25 < x24 then (if 0 ≤ x25 then (if x25 < (x23.length : Int) then ((hinterlandref14_within.f (rd x23 x25) (-1) 15).bind fun t415 => (if t415 = true then (if (rd x23 x25) = (-1) then (hinterlandref14_Validate.j1 k x0 x23 x24 x25 false x413000 x413001 x413002 x413003 x413004 x413005 x413006) else (if x25 < (x413000.length : Int) then (if 0 ≤ (rd x413000 x25) then (if (rd x413000 x25) < (x0.length : Int) then (hinterlandref14_Validate.j1 k x0 x23 x24 x25 (((rd_T54 x0 (rd x413000 x25)).f7) == 0) x413000 x413001 x413002 x413003 x413004 x413005 x413006) else (none)) else (none)) else (none))) else (hinterlandref14_Validate.j1 k x0 x23 x24 x25 true x413000 x413001 x413002 x413003 x413004 x413005 x413006))) else (none)) else (none)) else ((hinterlandref14_within.f x413002 0 100000).bind fun t418 => (if t418 = true then ((hinterlandref14_within.f x413003 0 100000).bind fun t419 => (if t419 = true then ((hinterlandref14_within.f x413004 0 1000).bind fun t420 => (if t420 = true then ((hinterlandref14_within.f x413005 0 1000000).bind fun t421 => (if t421 = true then ((hinterlandref09_Validate.f k x413006).bind fun t422 => (hinterlandref14_Validate.j2 k (t422 != 0))) else (hinterlandref14_Validate.j2 k true))) else (hinterlandref14_Validate.j2 k true))) else (hinterlandref14_Validate.j2 k true))) else (hinterlandref14_Validate.j2 k true)))
def hinterlandref14_Validate.j1 : Nat → List (S54) → List Int → Int → Int → Bool → List Int → List Int → Int → Int → Int → Int → List (S69) → Option (Int)
  | 0, _, _, _, _, _, _, _, _, _, _, _, _ => none
  | k + 1, x0, x23, x24, x25, x48, x413000, x413001, x413002, x413003, x413004, x413005, x413006 => if x48 = true then (some 1) else (hinterlandref14_Validate.l0 k x0 x23 x24 (wrap64 (x25 + 1)) x413000 x413001 x413002 x413003 x413004 x413005 x413006)
def hinterlandref14_Validate.j2 : Nat → Bool → Option (Int)
  | 0, _ => none
  | k + 1, x77 => if x77 = true then (some 1) else (some 0)
end
def hinterlandref14_Validate.f (k : Nat) (l0 : List (S54)) (l1_0 : List Int) (l1_1 : List Int) (a1_2 : Int) (a1_3 : Int) (a1_4 : Int) (a1_5 : Int) (l1_6 : List (S69)) : Option (Int) := (hinterlandref14_coupled.f k l0 l1_0).bind fun t413 => (if t413 = 0 then (if (l1_1.length : Int) = (l1_0.length : Int) then (hinterlandref14_Validate.l0 k l0 l1_1 (l1_1.length : Int) 0 l1_0 l1_1 a1_2 a1_3 a1_4 a1_5 l1_6) else (some 1)) else (some t413))
theorem hinterlandref14_Validate.mono_l : ∀ k, (∀ y0 y1 y2 y3 y4 y5 y6 y7 y8 y9 y10, LeO (hinterlandref14_Validate.l0 k y0 y1 y2 y3 y4 y5 y6 y7 y8 y9 y10) (hinterlandref14_Validate.l0 (k + 1) y0 y1 y2 y3 y4 y5 y6 y7 y8 y9 y10)) ∧ (∀ y0 y1 y2 y3 y4 y5 y6 y7 y8 y9 y10 y11, LeO (hinterlandref14_Validate.j1 k y0 y1 y2 y3 y4 y5 y6 y7 y8 y9 y10 y11) (hinterlandref14_Validate.j1 (k + 1) y0 y1 y2 y3 y4 y5 y6 y7 y8 y9 y10 y11)) ∧ (∀ y0, LeO (hinterlandref14_Validate.j2 k y0) (hinterlandref14_Validate.j2 (k + 1) y0))
  | 0 => ⟨fun _ _ _ _ _ _ _ _ _ _ _ r h => by simp [hinterlandref14_Validate.l0] at h, fun _ _ _ _ _ _ _ _ _ _ _ _ r h => by simp [hinterlandref14_Validate.j1] at h, fun _ r h => by simp [hinterlandref14_Validate.j2] at h⟩
  | k + 1 => by
    obtain ⟨ih0, ih1, ih2⟩ := hinterlandref14_Validate.mono_l k
    refine ⟨?_, ?_, ?_⟩
    · intro y0 y1 y2 y3 y4 y5 y6 y7 y8 y9 y10
      unfold hinterlandref14_Validate.l0
      repeat' first
      | (with_reducible exact ih0 _ _ _ _ _ _ _ _ _ _ _)
      | (with_reducible exact ih1 _ _ _ _ _ _ _ _ _ _ _ _)
      | (with_reducible exact ih2 _)
      | (with_reducible exact hinterlandref09_Validate.mono _ _)
      | (with_reducible exact hinterlandref14_coupled.mono _ _ _)
      | (with_reducible exact LeO.refl _)
      | (with_reducible exact LeO.none _)
      | (with_reducible refine LeO.ite ?_ ?_)
      | (with_reducible refine LeO.bind ?_ (fun _ => ?_))
      | exact ih0 _ _ _ _ _ _ _ _ _ _ _
      | exact ih1 _ _ _ _ _ _ _ _ _ _ _ _
      | exact ih2 _
      | exact hinterlandref09_Validate.mono _ _
      | exact hinterlandref14_coupled.mono _ _ _
      | exact LeO.none _
      | refine LeO.ite ?_ ?_
      | refine LeO.bind ?_ (fun _ => ?_)
    · intro y0 y1 y2 y3 y4 y5 y6 y7 y8 y9 y10 y11
      unfold hinterlandref14_Validate.j1
      repeat' first
      | (with_reducible exact ih0 _ _ _ _ _ _ _ _ _ _ _)
      | (with_reducible exact ih1 _ _ _ _ _ _ _ _ _ _ _ _)
      | (with_reducible exact ih2 _)
      | (with_reducible exact hinterlandref09_Validate.mono _ _)
      | (with_reducible exact hinterlandref14_coupled.mono _ _ _)
      | (with_reducible exact LeO.refl _)
      | (with_reducible exact LeO.none _)
      | (with_reducible refine LeO.ite ?_ ?_)
      | (with_reducible refine LeO.bind ?_ (fun _ => ?_))
      | exact ih0 _ _ _ _ _ _ _ _ _ _ _
      | exact ih1 _ _ _ _ _ _ _ _ _ _ _ _
      | exact ih2 _
      | exact hinterlandref09_Validate.mono _ _
      | exact hinterlandref14_coupled.mono _ _ _
      | exact LeO.none _
      | refine LeO.ite ?_ ?_
      | refine LeO.bind ?_ (fun _ => ?_)
    · intro y0
      unfold hinterlandref14_Validate.j2
      repeat' first
      | (with_reducible exact ih0 _ _ _ _ _ _ _ _ _ _ _)
      | (with_reducible exact ih1 _ _ _ _ _ _ _ _ _ _ _ _)
      | (with_reducible exact ih2 _)
      | (with_reducible exact hinterlandref09_Validate.mono _ _)
      | (with_reducible exact hinterlandref14_coupled.mono _ _ _)
      | (with_reducible exact LeO.refl _)
      | (with_reducible exact LeO.none _)
      | (with_reducible refine LeO.ite ?_ ?_)
      | (with_reducible refine LeO.bind ?_ (fun _ => ?_))
      | exact ih0 _ _ _ _ _ _ _ _ _ _ _
      | exact ih1 _ _ _ _ _ _ _ _ _ _ _ _
      | exact ih2 _
      | exact hinterlandref09_Validate.mono _ _
      | exact hinterlandref14_coupled.mono _ _ _
      | exact LeO.none _
      | refine LeO.ite ?_ ?_
      | refine LeO.bind ?_ (fun _ => ?_)
theorem hinterlandref14_Validate.mono : ∀ a0 a1 a2 a3 a4 a5 a6 a7 k, LeO (hinterlandref14_Validate.f k a0 a1 a2 a3 a4 a5 a6 a7) (hinterlandref14_Validate.f (k + 1) a0 a1 a2 a3 a4 a5 a6 a7) := by
  intro a0 a1 a2 a3 a4 a5 a6 a7 k
  obtain ⟨ih0, ih1, ih2⟩ := hinterlandref14_Validate.mono_l k
  unfold hinterlandref14_Validate.f
  repeat' first
      | (with_reducible exact ih0 _ _ _ _ _ _ _ _ _ _ _)
      | (with_reducible exact ih1 _ _ _ _ _ _ _ _ _ _ _ _)
      | (with_reducible exact ih2 _)
      | (with_reducible exact hinterlandref09_Validate.mono _ _)
      | (with_reducible exact hinterlandref14_coupled.mono _ _ _)
      | (with_reducible exact LeO.refl _)
      | (with_reducible exact LeO.none _)
      | (with_reducible refine LeO.ite ?_ ?_)
      | (with_reducible refine LeO.bind ?_ (fun _ => ?_))
      | exact ih0 _ _ _ _ _ _ _ _ _ _ _
      | exact ih1 _ _ _ _ _ _ _ _ _ _ _ _
      | exact ih2 _
      | exact hinterlandref09_Validate.mono _ _
      | exact hinterlandref14_coupled.mono _ _ _
      | exact LeO.none _
      | refine LeO.ite ?_ ?_
      | refine LeO.bind ?_ (fun _ => ?_)
set_option maxHeartbeats 8000000 in
set_option maxRecDepth 100000 in
theorem hinterlandref14_Validate.calls (k : Nat) (A0 : Option Addr) (c0 : Nat) (l0 : List (S54)) (A1_0 : Option Addr) (c1_0 : Nat) (l1_0 : List Int) (A1_1 : Option Addr) (c1_1 : Nat) (l1_1 : List Int) (a1_2 : Int) (a1_3 : Int) (a1_4 : Int) (a1_5 : Int) (A1_6 : Option Addr) (c1_6 : Nat) (l1_6 : List (S69)) (r : Int) (w : World) (hr0 : Kd.C k54 w A0 l0.length l0) (hc0 : l0.length ≤ c0) (hr1_0 : Kd.C (Kd.int .i64) w A1_0 l1_0.length l1_0) (hc1_0 : l1_0.length ≤ c1_0) (hr1_1 : Kd.C (Kd.int .i64) w A1_1 l1_1.length l1_1) (hc1_1 : l1_1.length ≤ c1_1) (hr1_6 : Kd.C k69 w A1_6 l1_6.length l1_6) (hc1_6 : l1_6.length ≤ c1_6) (h : hinterlandref14_Validate.f k l0 l1_0 l1_1 a1_2 a1_3 a1_4 a1_5 l1_6 = some r) :
    Calls Try.prog 26 #[.slice A0 l0.length c0, .agg #[.slice A1_0 l1_0.length c1_0, .slice A1_1 l1_1.length c1_1, .int .i64 a1_2, .int .i64 a1_3, .int .i64 a1_4, .int .i64 a1_5, .slice A1_6 l1_6.length c1_6]] w fun e w' => e = .returned (.int .i64 r) ∧ Below w.heap.size w w' := by
 have hu27 := Try.underlying27
 have HR0 := Aside0.mk hr0
 have HC0 := Aside0.mk hc0
 clear hr0 hc0
 have HR1_0 := Aside0.mk hr1_0
 have HC1_0 := Aside0.mk hc1_0
 clear hr1_0 hc1_0
 have HR1_1 := Aside0.mk hr1_1
 have HC1_1 := Aside0.mk hc1_1
 clear hr1_1 hc1_1
 have HR1_6 := Aside0.mk hr1_6
 have HC1_6 := Aside0.mk hc1_6
 clear hr1_6 hc1_6
 have HB := Aside0.mk (Below.refl w.heap.size w)
 have H : ((hinterlandref14_coupled.f k l0 l1_0).bind fun t413 => (if t413 = 0 then (if (l1_1.length : Int) = (l1_0.length : Int) then (hinterlandref14_Validate.l0 k l0 l1_1 (l1_1.length : Int) 0 l1_0 l1_1 a1_2 a1_3 a1_4 a1_5 l1_6) else (some 1)) else (some t413))) = some r := h
 clear h
 replace H := Option.bind_eq_some_iff.mp H
 obtain ⟨t413, A30, H⟩ := H
 replace H : (if t413 = 0 then (if (l1_1.length : Int) = (l1_0.length : Int) then (hinterlandref14_Validate.l0 k l0 l1_1 (l1_1.length : Int) 0 l1_0 l1_1 a1_2 a1_3 a1_4 a1_5 l1_6) else (some 1)) else (some t413)) = some r := H
 have A3 := Aside0.mk A30
 clear A30
 by_cases c4 : t413 = 0
 ·rw [if_pos c4] at H
  have c4b0 : (t413 == 0) = true := beq_iff_eq.mpr c4
  have c4b1 : (t413 != 0) = false := bne_eq_false_iff_eq.mpr c4
  clear c4
  by_cases c5 : (l1_1.length : Int) = (l1_0.length : Int)
  ·rw [if_pos c5] at H
   have c5b0 : ((l1_1.length : Int) == (l1_0.length : Int)) = true := beq_iff_eq.mpr c5
   have c5b1 : ((l1_1.length : Int) != (l1_0.length : Int)) = false := bne_eq_false_iff_eq.mpr c5
   have c5b2 : (l1_1.length == l1_0.length) = true := by first | simpa using c5 | (simp at c5 ⊢; omega)
   clear c5
   have H' := Aside0.mk H
   clear H
   go_enter Try.func26, Try.ntmps26
   go_wp2_with (first | ((with_reducible refine gate_dst (N := 3) rfl ?_); refine box_event ?hg (N := 3) ?hd (cs := #[.slice A1_0 l1_0.length c1_0, .slice A1_1 l1_1.length c1_1, .int .i64 a1_2, .int .i64 a1_3, .int .i64 a1_4, .int .i64 a1_5, .slice A1_6 l1_6.length c1_6]) (t := 27) ?hr ?_; (case hd => rfl); (case hg => rfl); (case hr => first | (go_simp; done) | (go_simp; rfl)); intro gb412 hg w6 hbox hb; have n0_ := Aside0.mk (below_step (dL_ HB) hb); have n1_ := Aside0.mk (hbox); have n2_ := Aside0.mk ((dS_ hg (dL_ HB) : w.heap.size ≤ gb412)); have n3_ := Aside0.mk ((dS_ hg (dL_ HB) : w.heap.size ≤ gb412)); clear HB; have HB := n0_; have BK412 := n1_; have GW412 := n2_; have GE412 := n3_; clear n0_ n1_ n2_ n3_; clear hb hbox hg; obtain ⟨hcz7_0, hcz7_1, hcz7_2, hcz7_3, hcz7_4, hcz7_5, hcz7_6, hfz7_0, hfz7_1, hfz7_2, hfz7_3, hfz7_4, hfz7_5, hfz7_6⟩ := cs7_ BK412.out) | ((with_reducible refine gate_callee (f := 40) rfl ?_); refine goesL_ (some 11) rfl rfl Try.func40 (by kernel_rfl) rfl #[.slice A0 l0.length c0, .slice A1_0 l1_0.length c1_0] rfl tA_ ?_; (with_reducible refine (hinterlandref14_coupled.calls k _ _ l0 _ _ l1_0 t413 _ ?side1 ?side2 ?side3 ?side4 A3.out).mono ?_); (case side1 => exact dC_ HR0 HB); (case side2 => exact HC0.out); (case side3 => exact dC_ HR1_0 HB); (case side4 => exact HC1_0.out); rintro e w8 ⟨rfl, hb⟩; refine ⟨_, rfl, ?_⟩; have n0_ := Aside0.mk (bb_ BK412 hb); have n1_ := Aside0.mk (below_step (dL1_ HB GE412) hb); clear BK412; clear HB; have BK412 := n0_; have HB := n1_; clear n0_ n1_; (try clear hb); (try clear hb2); (try clear hk); (try clear hi); obtain ⟨hcz9_0, hcz9_1, hcz9_2, hcz9_3, hcz9_4, hcz9_5, hcz9_6, hfz9_0, hfz9_1, hfz9_2, hfz9_3, hfz9_4, hfz9_5, hfz9_6⟩ := cs7_ BK412.out))
   go_loopg [25] k (fun kq v25 w' => ∃ (x25_1 : Int), v25 = .int .i64 x25_1 ∧ Aside0 (hinterlandref14_Validate.l0 kq l0 l1_1 (l1_1.length : Int) x25_1 l1_0 l1_1 a1_2 a1_3 a1_4 a1_5 l1_6 = some r) ∧ Aside0 (kq ≤ k) ∧ Aside0 (w'.heap[gb412]? = some (.cells #[(.slice A1_0 l1_0.length c1_0), (.slice A1_1 l1_1.length c1_1), .int .i64 a1_2, .int .i64 a1_3, .int .i64 a1_4, .int .i64 a1_5, (.slice A1_6 l1_6.length c1_6)] 27 (0, 0))) ∧ Aside0 (Below w.heap.size w w'))
   case atStart => exact ⟨(0), tS_, H', ⟨Nat.le_refl _⟩, ⟨dB_ BK412⟩, ⟨dL1_ HB GE412⟩⟩
   case round =>
    clear H'
    try clear c4
    try clear c4b0
    try clear c4b1
    try clear c5
    try clear c5b0
    try clear c5b1
    try clear c5b2
    try clear hcz7_0
    try clear hcz7_1
    try clear hcz7_2
    try clear hcz7_3
    try clear hcz7_4
    try clear hcz7_5
    try clear hcz7_6
    try clear hcz9_0
    try clear hcz9_1
    try clear hcz9_2
    try clear hcz9_3
    try clear hcz9_4
    try clear hcz9_5
    try clear hcz9_6
    try clear hfz7_0
    try clear hfz7_1
    try clear hfz7_2
    try clear hfz7_3
    try clear hfz7_4
    try clear hfz7_5
    try clear hfz7_6
    try clear hfz9_0
    try clear hfz9_1
    try clear hfz9_2
    try clear hfz9_3
    try clear hfz9_4
    try clear hfz9_5
    try clear hfz9_6
    obtain ⟨x25_1, rfl, HA, HK1, BK412, HB⟩ := hrel
    cases gk with
    | zero => exact absurd HA.out (by simp [hinterlandref14_Validate.l0])
    | succ k1 =>
     have H := HA.out
     clear HA
     simp only [hinterlandref14_Validate.l0] at H
     by_cases c10 : x25_1 < (l1_1.length : Int)
     ·rw [if_pos c10] at H
      have c10b0 : decide (x25_1 < (l1_1.length : Int)) = true := decide_eq_true c10
      clear c10
      by_cases c11 : 0 ≤ x25_1
      ·rw [if_pos c11] at H
       have c11b0 : decide (0 ≤ x25_1) = true := decide_eq_true c11
       clear c11
       by_cases c12 : x25_1 < (l1_1.length : Int)
       ·rw [if_pos c12] at H
        have c12b0 : decide (x25_1 < (l1_1.length : Int)) = true := decide_eq_true c12
        clear c12
        have HC13 := Aside0.mk H
        clear H
        have p414 : 0 ≤ (x25_1 : Int) := of_decide_eq_true tW_
        have q414 : x25_1 < (l1_1.length : Int) := of_decide_eq_true tW_
        obtain ⟨ad414, e414, hx414_0⟩ := Kd.at_int HR1_1.out x25_1 p414 q414
        cases e414
        replace hx414_0 := bc_ HB hx414_0
        replace p414 := eq_true p414
        replace q414 := eq_true q414
        go_upto_region 9 with (fail)
        go_cut [48] (fun v48 wc => ∃ (kq : Nat) (x48_12 : Bool), v48 = .bool x48_12 ∧ Aside0 (hinterlandref14_Validate.j1 kq l0 l1_1 (l1_1.length : Int) x25_1 x48_12 l1_0 l1_1 a1_2 a1_3 a1_4 a1_5 l1_6 = some r) ∧ Aside0 (kq ≤ k1) ∧ Aside0 (wc.heap[gb412]? = some (.cells #[(.slice A1_0 l1_0.length c1_0), (.slice (some ad414) l1_1.length c1_1), .int .i64 a1_2, .int .i64 a1_3, .int .i64 a1_4, .int .i64 a1_5, (.slice A1_6 l1_6.length c1_6)] 27 (0, 0))) ∧ Aside0 (Below w.heap.size w wc))
        case first =>
         have H := HC13.out
         clear HC13
         replace H := Option.bind_eq_some_iff.mp H
         obtain ⟨t415, A140, H⟩ := H
         replace H : (if t415 = true then (if (rd l1_1 x25_1) = (-1) then (hinterlandref14_Validate.j1 k1 l0 l1_1 (l1_1.length : Int) x25_1 false l1_0 l1_1 a1_2 a1_3 a1_4 a1_5 l1_6) else (if x25_1 < (l1_0.length : Int) then (if 0 ≤ (rd l1_0 x25_1) then (if (rd l1_0 x25_1) < (l0.length : Int) then (hinterlandref14_Validate.j1 k1 l0 l1_1 (l1_1.length : Int) x25_1 (((rd_T54 l0 (rd l1_0 x25_1)).f7) == 0) l1_0 l1_1 a1_2 a1_3 a1_4 a1_5 l1_6) else (none)) else (none)) else (none))) else (hinterlandref14_Validate.j1 k1 l0 l1_1 (l1_1.length : Int) x25_1 true l1_0 l1_1 a1_2 a1_3 a1_4 a1_5 l1_6)) = some r := H
         have A14 := Aside0.mk A140
         clear A140
         by_cases c15 : t415 = true
         ·subst c15
          have H1 : (if (rd l1_1 x25_1) = (-1) then (hinterlandref14_Validate.j1 k1 l0 l1_1 (l1_1.length : Int) x25_1 false l1_0 l1_1 a1_2 a1_3 a1_4 a1_5 l1_6) else (if x25_1 < (l1_0.length : Int) then (if 0 ≤ (rd l1_0 x25_1) then (if (rd l1_0 x25_1) < (l0.length : Int) then (hinterlandref14_Validate.j1 k1 l0 l1_1 (l1_1.length : Int) x25_1 (((rd_T54 l0 (rd l1_0 x25_1)).f7) == 0) l1_0 l1_1 a1_2 a1_3 a1_4 a1_5 l1_6) else (none)) else (none)) else (none))) = some r := by rw [if_pos rfl] at H; exact H
          clear H
          have H := H1
          clear H1
          by_cases c16 : (rd l1_1 x25_1) = (-1)
          ·rw [if_pos c16] at H
           have c16b0 : ((rd l1_1 x25_1) == (-1)) = true := beq_iff_eq.mpr c16
           have c16b1 : ((rd l1_1 x25_1) != (-1)) = false := bne_eq_false_iff_eq.mpr c16
           clear c16
           (first | rw [c16b0] | (simp only [i64_w, i32_w]; rw [c16b0]) | skip)
           have H' := Aside0.mk H
           clear H
           go_wp2_with (first | ((with_reducible refine gate_callee (f := 42) rfl ?_); refine goesL_ (some 31) rfl rfl Try.func42 (by kernel_rfl) rfl #[.int .i64 (rd l1_1 x25_1), .int .i64 (-1), .int .i64 15] rfl tA_ ?_; (with_reducible refine (hinterlandref14_within.calls (rd l1_1 x25_1) (-1) 15 true _ A14.out).mono ?_); rintro e w' ⟨rfl, ⟨nd, rfl⟩⟩; refine ⟨_, rfl, ?_⟩))
           go_meet
           case rel => exact ⟨_, (false), tS_, H', ⟨by have := HK1.out; first | omega | exact Nat.le_refl _⟩, ⟨dB_ BK412⟩, ⟨dL1_ HB GE412⟩⟩
          ·rw [if_neg c16] at H
           have c16b0 : ((rd l1_1 x25_1) == (-1)) = false := beq_eq_false_iff_ne.mpr c16
           have c16b1 : ((rd l1_1 x25_1) != (-1)) = true := bne_iff_ne.mpr c16
           (first | rw [c16b0] | (simp only [i64_w, i32_w]; rw [c16b0]) | skip)
           by_cases c17 : x25_1 < (l1_0.length : Int)
           ·rw [if_pos c17] at H
            have c17b0 : decide (x25_1 < (l1_0.length : Int)) = true := decide_eq_true c17
            clear c17
            by_cases c18 : 0 ≤ (rd l1_0 x25_1)
            ·rw [if_pos c18] at H
             have c18b0 : decide (0 ≤ (rd l1_0 x25_1)) = true := decide_eq_true c18
             clear c18
             by_cases c19 : (rd l1_0 x25_1) < (l0.length : Int)
             ·rw [if_pos c19] at H
              have c19b0 : decide ((rd l1_0 x25_1) < (l0.length : Int)) = true := decide_eq_true c19
              clear c19
              have H' := Aside0.mk H
              clear H
              go_wp2_with (first | ((with_reducible refine gate_callee (f := 42) rfl ?_); refine goesL_ (some 31) rfl rfl Try.func42 (by kernel_rfl) rfl #[.int .i64 (rd l1_1 x25_1), .int .i64 (-1), .int .i64 15] rfl tA_ ?_; (with_reducible refine (hinterlandref14_within.calls (rd l1_1 x25_1) (-1) 15 true _ A14.out).mono ?_); rintro e w' ⟨rfl, ⟨nd, rfl⟩⟩; refine ⟨_, rfl, ?_⟩; obtain ⟨hcz20_0, hcz20_1, hcz20_2, hcz20_3, hcz20_4, hcz20_5, hcz20_6, hfz20_0, hfz20_1, hfz20_2, hfz20_3, hfz20_4, hfz20_5, hfz20_6⟩ := cs7_ BK412.out; have p416 : 0 ≤ (x25_1 : Int) := of_decide_eq_true tW_; have q416 : x25_1 < (l1_0.length : Int) := of_decide_eq_true tW_; obtain ⟨ad416, e416, hx416_0⟩ := Kd.at_int HR1_0.out x25_1 p416 q416; cases e416; replace hx416_0 := bc_ HB hx416_0; replace p416 := eq_true p416; replace q416 := eq_true q416; have p417 : 0 ≤ ((rd l1_0 x25_1) : Int) := of_decide_eq_true tW_; have q417 : (rd l1_0 x25_1) < (l0.length : Int) := of_decide_eq_true tW_; obtain ⟨ad417, e417, hx417_0, hx417_1, hx417_2, hx417_3, hx417_4, hx417_5, hx417_6, hx417_7, hx417_8, hx417_9, hx417_10, hx417_11, hx417_12, hx417_13⟩ := at_T54 HR0.out (rd l1_0 x25_1) p417 q417; cases e417; replace hx417_0 := bc_ HB hx417_0; replace hx417_1 := bc_ HB hx417_1; replace hx417_2 := bc_ HB hx417_2; replace hx417_3 := bc_ HB hx417_3; replace hx417_4 := bc_ HB hx417_4; replace hx417_5 := bc_ HB hx417_5; replace hx417_6 := bc_ HB hx417_6; replace hx417_7 := bc_ HB hx417_7; replace hx417_8 := bc_ HB hx417_8; replace hx417_9 := bc_ HB hx417_9; replace hx417_10 := bc_ HB hx417_10; replace hx417_11 := bc_ HB hx417_11; replace hx417_12 := bc_ HB hx417_12; replace hx417_13 := bc_ HB hx417_13; replace p417 := eq_true p417; replace q417 := eq_true q417))
              go_meet
              case rel => exact ⟨_, ((((rd_T54 l0 (rd l1_0 x25_1)).f7) == 0)), tS_, H', ⟨by have := HK1.out; first | omega | exact Nat.le_refl _⟩, ⟨dB_ BK412⟩, ⟨dL1_ HB GE412⟩⟩
             ·rw [if_neg c19] at H
              exact absurd H (by simp)
            ·rw [if_neg c18] at H
             exact absurd H (by simp)
           ·rw [if_neg c17] at H
            exact absurd H (by simp)
         ·replace c15 := Bool.eq_false_iff.mpr c15
          subst c15
          have H1 : (hinterlandref14_Validate.j1 k1 l0 l1_1 (l1_1.length : Int) x25_1 true l1_0 l1_1 a1_2 a1_3 a1_4 a1_5 l1_6) = some r := by rw [if_neg (show ¬ (false = true) by decide)] at H; exact H
          clear H
          have H := H1
          clear H1
          have H' := Aside0.mk H
          clear H
          go_wp2_with (first | ((with_reducible refine gate_callee (f := 42) rfl ?_); refine goesL_ (some 31) rfl rfl Try.func42 (by kernel_rfl) rfl #[.int .i64 (rd l1_1 x25_1), .int .i64 (-1), .int .i64 15] rfl tA_ ?_; (with_reducible refine (hinterlandref14_within.calls (rd l1_1 x25_1) (-1) 15 false _ A14.out).mono ?_); rintro e w' ⟨rfl, ⟨nd, rfl⟩⟩; refine ⟨_, rfl, ?_⟩))
          go_meet
          case rel => exact ⟨_, (true), tS_, H', ⟨by have := HK1.out; first | omega | exact Nat.le_refl _⟩, ⟨dB_ BK412⟩, ⟨dL1_ HB GE412⟩⟩
        case rest =>
         clear HC13
         try clear c4
         try clear c4b0
         try clear c4b1
         try clear c5
         try clear c5b0
         try clear c5b1
         try clear c5b2
         try clear c10
         try clear c10b0
         try clear c11
         try clear c11b0
         try clear c12
         try clear c12b0
         try clear c16
         try clear c17
         try clear c18
         try clear c19
         try clear hcz7_0
         try clear hcz7_1
         try clear hcz7_2
         try clear hcz7_3
         try clear hcz7_4
         try clear hcz7_5
         try clear hcz7_6
         try clear hcz9_0
         try clear hcz9_1
         try clear hcz9_2
         try clear hcz9_3
         try clear hcz9_4
         try clear hcz9_5
         try clear hcz9_6
         try clear hfz7_0
         try clear hfz7_1
         try clear hfz7_2
         try clear hfz7_3
         try clear hfz7_4
         try clear hfz7_5
         try clear hfz7_6
         try clear hfz9_0
         try clear hfz9_1
         try clear hfz9_2
         try clear hfz9_3
         try clear hfz9_4
         try clear hfz9_5
         try clear hfz9_6
         try clear hx414_0
         try clear p414
         try clear q414
         obtain ⟨kq, x48_12, rfl, HA, HJ12, BK412, HB⟩ := hcut
         cases kq with
         | zero => exact absurd HA.out (by simp [hinterlandref14_Validate.j1])
         | succ kj12 =>
          have H := HA.out
          clear HA
          simp only [hinterlandref14_Validate.j1] at H
          by_cases c21 : x48_12 = true
          ·subst c21
           have H1 : (some 1) = some r := by rw [if_pos rfl] at H; exact H
           clear H
           have H := H1
           clear H1
           obtain rfl := Option.some.inj H
           go_wp2
           go_ret
           exact ⟨tE_, dL1_ HB GE412⟩
          ·replace c21 := Bool.eq_false_iff.mpr c21
           subst c21
           have H1 : (hinterlandref14_Validate.l0 kj12 l0 l1_1 (l1_1.length : Int) (wrap64 (x25_1 + 1)) l1_0 l1_1 a1_2 a1_3 a1_4 a1_5 l1_6) = some r := by rw [if_neg (show ¬ (false = true) by decide)] at H; exact H
           clear H
           have H := H1
           clear H1
           have H' := Aside0.mk H
           clear H
           go_wp2
           go_roundg kj12
           case measure => have := HK1.out; have := HJ12.out; omega
           case rel => exact ⟨(wrap64 (x25_1 + 1)), tS_, H', ⟨by have := HK1.out; have := HJ12.out; omega⟩, ⟨dB_ BK412⟩, ⟨dL1_ HB GE412⟩⟩
       ·rw [if_neg c12] at H
        exact absurd H (by simp)
      ·rw [if_neg c11] at H
       exact absurd H (by simp)
     ·rw [if_neg c10] at H
      have c10b0 : decide (x25_1 < (l1_1.length : Int)) = false := decide_eq_false c10
      clear c10
      have HC22 := Aside0.mk H
      clear H
      go_upto_region 12 with (fail)
      go_cut [77] (fun v77 wc => ∃ (kq : Nat) (x77_21 : Bool), v77 = .bool x77_21 ∧ Aside0 (hinterlandref14_Validate.j2 kq x77_21 = some r) ∧ Aside0 (kq ≤ k1) ∧ Aside0 (wc.heap[gb412]? = some (.cells #[(.slice A1_0 l1_0.length c1_0), (.slice A1_1 l1_1.length c1_1), .int .i64 a1_2, .int .i64 a1_3, .int .i64 a1_4, .int .i64 a1_5, (.slice A1_6 l1_6.length c1_6)] 27 (0, 0))) ∧ Aside0 (Below w.heap.size w wc))
      case first =>
       have H := HC22.out
       clear HC22
       replace H := Option.bind_eq_some_iff.mp H
       obtain ⟨t418, A230, H⟩ := H
       replace H : (if t418 = true then ((hinterlandref14_within.f a1_3 0 100000).bind fun t419 => (if t419 = true then ((hinterlandref14_within.f a1_4 0 1000).bind fun t420 => (if t420 = true then ((hinterlandref14_within.f a1_5 0 1000000).bind fun t421 => (if t421 = true then ((hinterlandref09_Validate.f k1 l1_6).bind fun t422 => (hinterlandref14_Validate.j2 k1 (t422 != 0))) else (hinterlandref14_Validate.j2 k1 true))) else (hinterlandref14_Validate.j2 k1 true))) else (hinterlandref14_Validate.j2 k1 true))) else (hinterlandref14_Validate.j2 k1 true)) = some r := H
       have A23 := Aside0.mk A230
       clear A230
       by_cases c24 : t418 = true
       ·subst c24
        have H1 : ((hinterlandref14_within.f a1_3 0 100000).bind fun t419 => (if t419 = true then ((hinterlandref14_within.f a1_4 0 1000).bind fun t420 => (if t420 = true then ((hinterlandref14_within.f a1_5 0 1000000).bind fun t421 => (if t421 = true then ((hinterlandref09_Validate.f k1 l1_6).bind fun t422 => (hinterlandref14_Validate.j2 k1 (t422 != 0))) else (hinterlandref14_Validate.j2 k1 true))) else (hinterlandref14_Validate.j2 k1 true))) else (hinterlandref14_Validate.j2 k1 true))) = some r := by rw [if_pos rfl] at H; exact H
        clear H
        have H := H1
        clear H1
        replace H := Option.bind_eq_some_iff.mp H
        obtain ⟨t419, A250, H⟩ := H
        replace H : (if t419 = true then ((hinterlandref14_within.f a1_4 0 1000).bind fun t420 => (if t420 = true then ((hinterlandref14_within.f a1_5 0 1000000).bind fun t421 => (if t421 = true then ((hinterlandref09_Validate.f k1 l1_6).bind fun t422 => (hinterlandref14_Validate.j2 k1 (t422 != 0))) else (hinterlandref14_Validate.j2 k1 true))) else (hinterlandref14_Validate.j2 k1 true))) else (hinterlandref14_Validate.j2 k1 true)) = some r := H
        have A25 := Aside0.mk A250
        clear A250
        by_cases c26 : t419 = true
        ·subst c26
         have H1 : ((hinterlandref14_within.f a1_4 0 1000).bind fun t420 => (if t420 = true then ((hinterlandref14_within.f a1_5 0 1000000).bind fun t421 => (if t421 = true then ((hinterlandref09_Validate.f k1 l1_6).bind fun t422 => (hinterlandref14_Validate.j2 k1 (t422 != 0))) else (hinterlandref14_Validate.j2 k1 true))) else (hinterlandref14_Validate.j2 k1 true))) = some r := by rw [if_pos rfl] at H; exact H
         clear H
         have H := H1
         clear H1
         replace H := Option.bind_eq_some_iff.mp H
         obtain ⟨t420, A270, H⟩ := H
         replace H : (if t420 = true then ((hinterlandref14_within.f a1_5 0 1000000).bind fun t421 => (if t421 = true then ((hinterlandref09_Validate.f k1 l1_6).bind fun t422 => (hinterlandref14_Validate.j2 k1 (t422 != 0))) else (hinterlandref14_Validate.j2 k1 true))) else (hinterlandref14_Validate.j2 k1 true)) = some r := H
         have A27 := Aside0.mk A270
         clear A270
         by_cases c28 : t420 = true
         ·subst c28
          have H1 : ((hinterlandref14_within.f a1_5 0 1000000).bind fun t421 => (if t421 = true then ((hinterlandref09_Validate.f k1 l1_6).bind fun t422 => (hinterlandref14_Validate.j2 k1 (t422 != 0))) else (hinterlandref14_Validate.j2 k1 true))) = some r := by rw [if_pos rfl] at H; exact H
          clear H
          have H := H1
          clear H1
          replace H := Option.bind_eq_some_iff.mp H
          obtain ⟨t421, A290, H⟩ := H
          replace H : (if t421 = true then ((hinterlandref09_Validate.f k1 l1_6).bind fun t422 => (hinterlandref14_Validate.j2 k1 (t422 != 0))) else (hinterlandref14_Validate.j2 k1 true)) = some r := H
          have A29 := Aside0.mk A290
          clear A290
          by_cases c30 : t421 = true
          ·subst c30
           have H1 : ((hinterlandref09_Validate.f k1 l1_6).bind fun t422 => (hinterlandref14_Validate.j2 k1 (t422 != 0))) = some r := by rw [if_pos rfl] at H; exact H
           clear H
           have H := H1
           clear H1
           replace H := Option.bind_eq_some_iff.mp H
           obtain ⟨t422, A310, H⟩ := H
           replace H : (hinterlandref14_Validate.j2 k1 (t422 != 0)) = some r := H
           have A31 := Aside0.mk A310
           clear A310
           have H' := Aside0.mk H
           clear H
           obtain ⟨hcz32_0, hcz32_1, hcz32_2, hcz32_3, hcz32_4, hcz32_5, hcz32_6, hfz32_0, hfz32_1, hfz32_2, hfz32_3, hfz32_4, hfz32_5, hfz32_6⟩ := cs7_ BK412.out
           go_wp2_with (first | ((with_reducible refine gate_callee (f := 42) rfl ?_); refine goesL_ (some 52) rfl rfl Try.func42 (by kernel_rfl) rfl #[.int .i64 a1_2, .int .i64 0, .int .i64 100000] rfl tA_ ?_; (with_reducible refine (hinterlandref14_within.calls a1_2 0 100000 true _ A23.out).mono ?_); rintro e w' ⟨rfl, ⟨nd, rfl⟩⟩; refine ⟨_, rfl, ?_⟩) | (go_at_call 42; (with_reducible refine (hinterlandref14_within.calls a1_3 0 100000 true _ A25.out).mono ?_); rintro e w' ⟨rfl, ⟨nd, rfl⟩⟩) | (go_at_call 42; (with_reducible refine (hinterlandref14_within.calls a1_4 0 1000 true _ A27.out).mono ?_); rintro e w' ⟨rfl, ⟨nd, rfl⟩⟩) | (go_at_call 42; (with_reducible refine (hinterlandref14_within.calls a1_5 0 1000000 true _ A29.out).mono ?_); rintro e w' ⟨rfl, ⟨nd, rfl⟩⟩) | (go_at_call 44; (with_reducible refine (hinterlandref09_Validate.calls k1 _ _ l1_6 t422 _ ?side1 ?side2 A31.out).mono ?_); (case side1 => repeat (first | exact (Kd.C_below HR1_6.out (dL1_ HB GE412)) | (with_reducible refine Kd.C_alloc ?_ _) | (with_reducible refine Kd.C_drewN ?_ _) | (with_reducible refine Kd.C_drew ?_))); (case side2 => exact HC1_6.out); rintro e w33 ⟨rfl, hb⟩; have n0_ := Aside0.mk (bb_ BK412 hb); have n1_ := Aside0.mk (below_step (dL1_ HB GE412) hb); clear BK412; clear HB; have BK412 := n0_; have HB := n1_; clear n0_ n1_; (try clear hb); (try clear hb2); (try clear hk); (try clear hi)))
           go_meet
           case rel => exact ⟨_, ((t422 != 0)), tS_, H', ⟨by have := HK1.out; first | omega | exact Nat.le_refl _⟩, ⟨dB_ BK412⟩, ⟨dL1_ HB GE412⟩⟩
          ·replace c30 := Bool.eq_false_iff.mpr c30
           subst c30
           have H1 : (hinterlandref14_Validate.j2 k1 true) = some r := by rw [if_neg (show ¬ (false = true) by decide)] at H; exact H
           clear H
           have H := H1
           clear H1
           have H' := Aside0.mk H
           clear H
           obtain ⟨hcz34_0, hcz34_1, hcz34_2, hcz34_3, hcz34_4, hcz34_5, hcz34_6, hfz34_0, hfz34_1, hfz34_2, hfz34_3, hfz34_4, hfz34_5, hfz34_6⟩ := cs7_ BK412.out
           go_wp2_with (first | ((with_reducible refine gate_callee (f := 42) rfl ?_); refine goesL_ (some 52) rfl rfl Try.func42 (by kernel_rfl) rfl #[.int .i64 a1_2, .int .i64 0, .int .i64 100000] rfl tA_ ?_; (with_reducible refine (hinterlandref14_within.calls a1_2 0 100000 true _ A23.out).mono ?_); rintro e w' ⟨rfl, ⟨nd, rfl⟩⟩; refine ⟨_, rfl, ?_⟩) | (go_at_call 42; (with_reducible refine (hinterlandref14_within.calls a1_3 0 100000 true _ A25.out).mono ?_); rintro e w' ⟨rfl, ⟨nd, rfl⟩⟩) | (go_at_call 42; (with_reducible refine (hinterlandref14_within.calls a1_4 0 1000 true _ A27.out).mono ?_); rintro e w' ⟨rfl, ⟨nd, rfl⟩⟩) | (go_at_call 42; (with_reducible refine (hinterlandref14_within.calls a1_5 0 1000000 false _ A29.out).mono ?_); rintro e w' ⟨rfl, ⟨nd, rfl⟩⟩))
           go_meet
           case rel => exact ⟨_, (true), tS_, H', ⟨by have := HK1.out; first | omega | exact Nat.le_refl _⟩, ⟨dB_ BK412⟩, ⟨dL1_ HB GE412⟩⟩
         ·replace c28 := Bool.eq_false_iff.mpr c28
          subst c28
          have H1 : (hinterlandref14_Validate.j2 k1 true) = some r := by rw [if_neg (show ¬ (false = true) by decide)] at H; exact H
          clear H
          have H := H1
          clear H1
          have H' := Aside0.mk H
          clear H
          obtain ⟨hcz35_0, hcz35_1, hcz35_2, hcz35_3, hcz35_4, hcz35_5, hcz35_6, hfz35_0, hfz35_1, hfz35_2, hfz35_3, hfz35_4, hfz35_5, hfz35_6⟩ := cs7_ BK412.out
          go_wp2_with (first | ((with_reducible refine gate_callee (f := 42) rfl ?_); refine goesL_ (some 52) rfl rfl Try.func42 (by kernel_rfl) rfl #[.int .i64 a1_2, .int .i64 0, .int .i64 100000] rfl tA_ ?_; (with_reducible refine (hinterlandref14_within.calls a1_2 0 100000 true _ A23.out).mono ?_); rintro e w' ⟨rfl, ⟨nd, rfl⟩⟩; refine ⟨_, rfl, ?_⟩) | (go_at_call 42; (with_reducible refine (hinterlandref14_within.calls a1_3 0 100000 true _ A25.out).mono ?_); rintro e w' ⟨rfl, ⟨nd, rfl⟩⟩) | (go_at_call 42; (with_reducible refine (hinterlandref14_within.calls a1_4 0 1000 false _ A27.out).mono ?_); rintro e w' ⟨rfl, ⟨nd, rfl⟩⟩))
          go_meet
          case rel => exact ⟨_, (true), tS_, H', ⟨by have := HK1.out; first | omega | exact Nat.le_refl _⟩, ⟨dB_ BK412⟩, ⟨dL1_ HB GE412⟩⟩
        ·replace c26 := Bool.eq_false_iff.mpr c26
         subst c26
         have H1 : (hinterlandref14_Validate.j2 k1 true) = some r := by rw [if_neg (show ¬ (false = true) by decide)] at H; exact H
         clear H
         have H := H1
         clear H1
         have H' := Aside0.mk H
         clear H
         obtain ⟨hcz36_0, hcz36_1, hcz36_2, hcz36_3, hcz36_4, hcz36_5, hcz36_6, hfz36_0, hfz36_1, hfz36_2, hfz36_3, hfz36_4, hfz36_5, hfz36_6⟩ := cs7_ BK412.out
         go_wp2_with (first | ((with_reducible refine gate_callee (f := 42) rfl ?_); refine goesL_ (some 52) rfl rfl Try.func42 (by kernel_rfl) rfl #[.int .i64 a1_2, .int .i64 0, .int .i64 100000] rfl tA_ ?_; (with_reducible refine (hinterlandref14_within.calls a1_2 0 100000 true _ A23.out).mono ?_); rintro e w' ⟨rfl, ⟨nd, rfl⟩⟩; refine ⟨_, rfl, ?_⟩) | (go_at_call 42; (with_reducible refine (hinterlandref14_within.calls a1_3 0 100000 false _ A25.out).mono ?_); rintro e w' ⟨rfl, ⟨nd, rfl⟩⟩))
         go_meet
         case rel => exact ⟨_, (true), tS_, H', ⟨by have := HK1.out; first | omega | exact Nat.le_refl _⟩, ⟨dB_ BK412⟩, ⟨dL1_ HB GE412⟩⟩
       ·replace c24 := Bool.eq_false_iff.mpr c24
        subst c24
        have H1 : (hinterlandref14_Validate.j2 k1 true) = some r := by rw [if_neg (show ¬ (false = true) by decide)] at H; exact H
        clear H
        have H := H1
        clear H1
        have H' := Aside0.mk H
        clear H
        obtain ⟨hcz37_0, hcz37_1, hcz37_2, hcz37_3, hcz37_4, hcz37_5, hcz37_6, hfz37_0, hfz37_1, hfz37_2, hfz37_3, hfz37_4, hfz37_5, hfz37_6⟩ := cs7_ BK412.out
        go_wp2_with (first | ((with_reducible refine gate_callee (f := 42) rfl ?_); refine goesL_ (some 52) rfl rfl Try.func42 (by kernel_rfl) rfl #[.int .i64 a1_2, .int .i64 0, .int .i64 100000] rfl tA_ ?_; (with_reducible refine (hinterlandref14_within.calls a1_2 0 100000 false _ A23.out).mono ?_); rintro e w' ⟨rfl, ⟨nd, rfl⟩⟩; refine ⟨_, rfl, ?_⟩))
        go_meet
        case rel => exact ⟨_, (true), tS_, H', ⟨by have := HK1.out; first | omega | exact Nat.le_refl _⟩, ⟨dB_ BK412⟩, ⟨dL1_ HB GE412⟩⟩
      case rest =>
       clear HC22
       try clear c4
       try clear c4b0
       try clear c4b1
       try clear c5
       try clear c5b0
       try clear c5b1
       try clear c5b2
       try clear c10
       try clear c10b0
       try clear c11
       try clear c12
       try clear c16
       try clear c17
       try clear c18
       try clear c19
       try clear hcz7_0
       try clear hcz7_1
       try clear hcz7_2
       try clear hcz7_3
       try clear hcz7_4
       try clear hcz7_5
       try clear hcz7_6
       try clear hcz9_0
       try clear hcz9_1
       try clear hcz9_2
       try clear hcz9_3
       try clear hcz9_4
       try clear hcz9_5
       try clear hcz9_6
       try clear hfz7_0
       try clear hfz7_1
       try clear hfz7_2
       try clear hfz7_3
       try clear hfz7_4
       try clear hfz7_5
       try clear hfz7_6
       try clear hfz9_0
       try clear hfz9_1
       try clear hfz9_2
       try clear hfz9_3
       try clear hfz9_4
       try clear hfz9_5
       try clear hfz9_6
       obtain ⟨kq, x77_21, rfl, HA, HJ21, BK412, HB⟩ := hcut
       cases kq with
       | zero => exact absurd HA.out (by simp [hinterlandref14_Validate.j2])
       | succ kj21 =>
        have H := HA.out
        clear HA
        simp only [hinterlandref14_Validate.j2] at H
        by_cases c38 : x77_21 = true
        ·subst c38
         have H1 : (some 1) = some r := by rw [if_pos rfl] at H; exact H
         clear H
         have H := H1
         clear H1
         obtain rfl := Option.some.inj H
         go_wp2
         go_ret
         exact ⟨tE_, dL1_ HB GE412⟩
        ·replace c38 := Bool.eq_false_iff.mpr c38
         subst c38
         have H1 : (some 0) = some r := by rw [if_neg (show ¬ (false = true) by decide)] at H; exact H
         clear H
         have H := H1
         clear H1
         obtain rfl := Option.some.inj H
         go_wp2
         go_ret
         exact ⟨tE_, dL1_ HB GE412⟩
  ·rw [if_neg c5] at H
   have c5b0 : ((l1_1.length : Int) == (l1_0.length : Int)) = false := beq_eq_false_iff_ne.mpr c5
   have c5b1 : ((l1_1.length : Int) != (l1_0.length : Int)) = true := bne_iff_ne.mpr c5
   have c5b2 : (l1_1.length == l1_0.length) = false := by first | simpa using c5 | (simp at c5 ⊢; omega)
   obtain rfl := Option.some.inj H
   go_enter Try.func26, Try.ntmps26
   go_wp2_with (first | ((with_reducible refine gate_dst (N := 3) rfl ?_); refine box_event ?hg (N := 3) ?hd (cs := #[.slice A1_0 l1_0.length c1_0, .slice A1_1 l1_1.length c1_1, .int .i64 a1_2, .int .i64 a1_3, .int .i64 a1_4, .int .i64 a1_5, .slice A1_6 l1_6.length c1_6]) (t := 27) ?hr ?_; (case hd => rfl); (case hg => rfl); (case hr => first | (go_simp; done) | (go_simp; rfl)); intro gb412 hg w39 hbox hb; have n0_ := Aside0.mk (below_step (dL_ HB) hb); have n1_ := Aside0.mk (hbox); have n2_ := Aside0.mk ((dS_ hg (dL_ HB) : w.heap.size ≤ gb412)); have n3_ := Aside0.mk ((dS_ hg (dL_ HB) : w.heap.size ≤ gb412)); clear HB; have HB := n0_; have BK412 := n1_; have GW412 := n2_; have GE412 := n3_; clear n0_ n1_ n2_ n3_; clear hb hbox hg; obtain ⟨hcz40_0, hcz40_1, hcz40_2, hcz40_3, hcz40_4, hcz40_5, hcz40_6, hfz40_0, hfz40_1, hfz40_2, hfz40_3, hfz40_4, hfz40_5, hfz40_6⟩ := cs7_ BK412.out) | ((with_reducible refine gate_callee (f := 40) rfl ?_); refine goesL_ (some 11) rfl rfl Try.func40 (by kernel_rfl) rfl #[.slice A0 l0.length c0, .slice A1_0 l1_0.length c1_0] rfl tA_ ?_; (with_reducible refine (hinterlandref14_coupled.calls k _ _ l0 _ _ l1_0 t413 _ ?side1 ?side2 ?side3 ?side4 A3.out).mono ?_); (case side1 => exact dC_ HR0 HB); (case side2 => exact HC0.out); (case side3 => exact dC_ HR1_0 HB); (case side4 => exact HC1_0.out); rintro e w41 ⟨rfl, hb⟩; refine ⟨_, rfl, ?_⟩; have n0_ := Aside0.mk (bb_ BK412 hb); have n1_ := Aside0.mk (below_step (dL1_ HB GE412) hb); clear BK412; clear HB; have BK412 := n0_; have HB := n1_; clear n0_ n1_; (try clear hb); (try clear hb2); (try clear hk); (try clear hi); obtain ⟨hcz42_0, hcz42_1, hcz42_2, hcz42_3, hcz42_4, hcz42_5, hcz42_6, hfz42_0, hfz42_1, hfz42_2, hfz42_3, hfz42_4, hfz42_5, hfz42_6⟩ := cs7_ BK412.out))
   go_ret
   exact ⟨tE_, dL1_ HB GE412⟩
 ·rw [if_neg c4] at H
  have c4b0 : (t413 == 0) = false := beq_eq_false_iff_ne.mpr c4
  have c4b1 : (t413 != 0) = true := bne_iff_ne.mpr c4
  obtain rfl := Option.some.inj H
  go_enter Try.func26, Try.ntmps26
  go_wp2_with (first | ((with_reducible refine gate_dst (N := 3) rfl ?_); refine box_event ?hg (N := 3) ?hd (cs := #[.slice A1_0 l1_0.length c1_0, .slice A1_1 l1_1.length c1_1, .int .i64 a1_2, .int .i64 a1_3, .int .i64 a1_4, .int .i64 a1_5, .slice A1_6 l1_6.length c1_6]) (t := 27) ?hr ?_; (case hd => rfl); (case hg => rfl); (case hr => first | (go_simp; done) | (go_simp; rfl)); intro gb412 hg w43 hbox hb; have n0_ := Aside0.mk (below_step (dL_ HB) hb); have n1_ := Aside0.mk (hbox); have n2_ := Aside0.mk ((dS_ hg (dL_ HB) : w.heap.size ≤ gb412)); have n3_ := Aside0.mk ((dS_ hg (dL_ HB) : w.heap.size ≤ gb412)); clear HB; have HB := n0_; have BK412 := n1_; have GW412 := n2_; have GE412 := n3_; clear n0_ n1_ n2_ n3_; clear hb hbox hg; obtain ⟨hcz44_0, hcz44_1, hcz44_2, hcz44_3, hcz44_4, hcz44_5, hcz44_6, hfz44_0, hfz44_1, hfz44_2, hfz44_3, hfz44_4, hfz44_5, hfz44_6⟩ := cs7_ BK412.out) | ((with_reducible refine gate_callee (f := 40) rfl ?_); refine goesL_ (some 11) rfl rfl Try.func40 (by kernel_rfl) rfl #[.slice A0 l0.length c0, .slice A1_0 l1_0.length c1_0] rfl tA_ ?_; (with_reducible refine (hinterlandref14_coupled.calls k _ _ l0 _ _ l1_0 t413 _ ?side1 ?side2 ?side3 ?side4 A3.out).mono ?_); (case side1 => exact dC_ HR0 HB); (case side2 => exact HC0.out); (case side3 => exact dC_ HR1_0 HB); (case side4 => exact HC1_0.out); rintro e w45 ⟨rfl, hb⟩; refine ⟨_, rfl, ?_⟩; have n0_ := Aside0.mk (bb_ BK412 hb); have n1_ := Aside0.mk (below_step (dL1_ HB GE412) hb); clear BK412; clear HB; have BK412 := n0_; have HB := n1_; clear n0_ n1_; (try clear hb); (try clear hb2); (try clear hk); (try clear hi)))
  go_ret
  exact ⟨tE_, dL1_ HB GE412⟩

end Go.Proofs.Ytgnahbjpockdmaa.Q
