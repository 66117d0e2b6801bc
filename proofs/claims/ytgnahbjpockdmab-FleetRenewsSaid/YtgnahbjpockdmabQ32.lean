-- PRINTED by print.py out of the translation. Not trusted: Lean checks it.
import Derived.Test.YtgnahbjpockdmabPrs
import Derived.Test.YtgnahbjpockdmabQ0
import Derived.Test.YtgnahbjpockdmabQ19
import Derived.Test.YtgnahbjpockdmabQ28
import Derived.Test.YtgnahbjpockdmabQ31
import Derived.Test.YtgnahbjpockdmabQ1
namespace Go.Proofs.Ytgnahbjpockdmab.Q
open Go.RowKit Go.Proofs.YtgnahbjpockdmabPrs Go.Proofs.YtgnahbjpockdmabOwn Go.Proofs.YtgnahbjpockdmabW.PrintWords Go.Proofs.YtgnahbjpockdmabW.PrintLast Go.Proofs.YtgnahbjpockdmabW.PrintMore
attribute [local go_sem] max2_int min2_int max_two min_two max_three min_three max_four min_four   -- for this text's walks alone
set_option linter.unusedVariables false
set_option linter.unusedSimpArgs false

/-! ### hinterlandref14_Validate: function 23 -/
mutual
def hinterlandref14_Validate.l0 : Nat → List (S52) → List Int → Int → Int → List Int → List Int → Int → Int → Int → Int → List (S49) → Option (Int)
  | 0, _, _, _, _, _, _, _, _, _, _, _ => none
  | k + 1, x0, x23, x24, x25, x357000, x357001, x357002, x357003, x357004, x357005, x357006 => if x25 < x24 then (if 0 ≤ x25 then (if x25 < (x23.length : Int) then ((hinterlandref14_within.f (rd x23 x25) (-1) 15).bind fun t359 => (if t359 = true then (if (rd x23 x25) = (-1) then (hinterlandref14_Validate.j1 k x0 x23 x24 x25 false x357000 x357001 x357002 x357003 x357004 x357005 x357006) else (if x25 < (x357000.length : Int) then (if 0 ≤ (rd x357000 x25) then (if (rd x357000 x25) < (x0.length : Int) then (hinterlandref14_Validate.j1 k x0 x23 x24 x25 (((rd_T52 x0 (rd x357000 x25)).f7) == 0) x357000 x357001 x357002 x357003 x357004 x357005 x357006) else (none)) else (none)) else (none))) else (hinterlandref14_Validate.j1 k x0 x23 x24 x25 true x357000 x357001 x357002 x357003 x357004 x357005 x357006))) else (none)) else (none)) else ((hinterlandref14_within.f x357002 0 100000).bind fun t362 => (if t362 = true then ((hinterlandref14_within.f x357003 0 100000).bind fun t363 => (if t363 = true then ((hinterlandref14_within.f x357004 0 1000).bind fun t364 => (if t364 = true then ((hinterlandref14_within.f x357005 0 1000000).bind fun t365 => (if t365 = true then ((hinterlandref09_Validate.f k x357006).bind fun t366 => (hinterlandref14_Validate.j2 k (t366 != 0))) else (hinterlandref14_Validate.j2 k true))) else (hinterlandref14_Validate.j2 k true))) else (hinterlandref14_Validate.j2 k true))) else (hinterlandref14_Validate.j2 k true)))
def hinterlandref14_Validate.j1 : Nat → List (S52) → List Int → Int → Int → Bool → List Int → List Int → Int → Int → Int → Int → List (S49) → Option (Int)
  | 0, _, _, _, _, _, _, _, _, _, _, _, _ => none
  | k + 1, x0, x23, x24, x25, x48, x357000, x357001, x357002, x357003, x357004, x357005, x357006 => if x48 = true then (some 1) else (hinterlandref14_Validate.l0 k x0 x23 x24 (wrap64 (x25 + 1)) x357000 x357001 x357002 x357003 x357004 x357005 x357006)
def hinterlandref14_Validate.j2 : Nat → Bool → Option (Int)
  | 0, _ => none
  | k + 1, x77 => if x77 = true then (some 1) else (some 0)
end
def hinterlandref14_Validate.f (k : Nat) (l0 : List (S52)) (l1_0 : List Int) (l1_1 : List Int) (a1_2 : Int) (a1_3 : Int) (a1_4 : Int) (a1_5 : Int) (l1_6 : List (S49)) : Option (Int) := (hinterlandref14_coupled.f k l0 l1_0).bind fun t357 => (if t357 = 0 then (if (l1_1.length : Int) = (l1_0.length : Int) then (hinterlandref14_Validate.l0 k l0 l1_1 (l1_1.length : Int) 0 l1_0 l1_1 a1_2 a1_3 a1_4 a1_5 l1_6) else (some 1)) else (some t357))
theorem hinterlandref14_Validate.mono_l : ∀ k, (∀ y0 y1 y2 y3 y4 y5 y6 y7 y8 y9 y10, LeO (hinterlandref14_Validate.l0 k y0 y1 y2 y3 y4 y5 y6 y7 y8 y9 y10) (hinterlandref14_Validate.l0 (k + 1) y0 y1 y2 y3 y4 y5 y6 y7 y8 y9 y10)) ∧ (∀ y0 y1 y2 y3 y4 y5 y6 y7 y8 y9 y10 y11, LeO (hinterlandref14_Validate.j1 k y0 y1 y2 y3 y4 y5 y6 y7 y8 y9 y10 y11) (hinterlandref14_Validate.j1 (k + 1) y0 y1 y2 y3 y4 y5 y6 y7 y8 y9 y10 y11)) ∧ (∀ y0, LeO (hinterlandref14_Validate.j2 k y0) (hinterlandref14_Validate.j2 (k + 1) y0))
  | 0 => ⟨fun _ _ _ _ _ _ _ _ _ _ _ r h => by simp [hinterlandref14_Validate.l0] at h, fun _ _ _ _ _ _ _ _ _ _ _ _ r h => by simp [hinterlandref14_Validate.j1] at h, fun _ r h => by simp [hinterlandref14_Validate.j2] at h⟩
  | k + 1 => by
    obtain ⟨ih0, ih1, ih2⟩ := hinterlandref14_Validate.mono_l k; refine ⟨?_, ?_, ?_⟩
    · intro y0 y1 y2 y3 y4 y5 y6 y7 y8 y9 y10
      unfold hinterlandref14_Validate.l0
      repeat' first
      | (with_reducible first | apply ih0 | apply ih1 | apply ih2 | apply hinterlandref09_Validate.mono | apply hinterlandref14_coupled.mono | exact LeO.refl _ | exact LeO.none _ | refine LeO.ite ?_ ?_ | refine LeO.bind ?_ (fun _ => ?_))
    · intro y0 y1 y2 y3 y4 y5 y6 y7 y8 y9 y10 y11
      unfold hinterlandref14_Validate.j1
      repeat' first
      | (with_reducible first | apply ih0 | apply ih1 | apply ih2 | apply hinterlandref09_Validate.mono | apply hinterlandref14_coupled.mono | exact LeO.refl _ | exact LeO.none _ | refine LeO.ite ?_ ?_ | refine LeO.bind ?_ (fun _ => ?_))
    · intro y0
      unfold hinterlandref14_Validate.j2
      repeat' first
      | (with_reducible first | apply ih0 | apply ih1 | apply ih2 | apply hinterlandref09_Validate.mono | apply hinterlandref14_coupled.mono | exact LeO.refl _ | exact LeO.none _ | refine LeO.ite ?_ ?_ | refine LeO.bind ?_ (fun _ => ?_))
theorem hinterlandref14_Validate.mono : ∀ a0 a1 a2 a3 a4 a5 a6 a7 k, LeO (hinterlandref14_Validate.f k a0 a1 a2 a3 a4 a5 a6 a7) (hinterlandref14_Validate.f (k + 1) a0 a1 a2 a3 a4 a5 a6 a7) := by
  intro a0 a1 a2 a3 a4 a5 a6 a7 k; obtain ⟨ih0, ih1, ih2⟩ := hinterlandref14_Validate.mono_l k
  unfold hinterlandref14_Validate.f
  repeat' first
      | (with_reducible first | apply ih0 | apply ih1 | apply ih2 | apply hinterlandref09_Validate.mono | apply hinterlandref14_coupled.mono | exact LeO.refl _ | exact LeO.none _ | refine LeO.ite ?_ ?_ | refine LeO.bind ?_ (fun _ => ?_))
set_option maxHeartbeats 8000000 in
set_option maxRecDepth 100000 in
theorem hinterlandref14_Validate.calls (k : Nat) (A0 : Option Addr) (c0 : Nat) (l0 : List (S52)) (A1_0 : Option Addr) (c1_0 : Nat) (l1_0 : List Int) (A1_1 : Option Addr) (c1_1 : Nat) (l1_1 : List Int) (a1_2 : Int) (a1_3 : Int) (a1_4 : Int) (a1_5 : Int) (A1_6 : Option Addr) (c1_6 : Nat) (l1_6 : List (S49)) (r : Int) (w : World) (hr0 : Kd.C k52 w A0 l0.length l0) (hc0 : l0.length ≤ c0) (hr1_0 : Kd.C (Kd.int .i64) w A1_0 l1_0.length l1_0) (hc1_0 : l1_0.length ≤ c1_0) (hr1_1 : Kd.C (Kd.int .i64) w A1_1 l1_1.length l1_1) (hc1_1 : l1_1.length ≤ c1_1) (hr1_6 : Kd.C k49 w A1_6 l1_6.length l1_6) (hc1_6 : l1_6.length ≤ c1_6) (h : hinterlandref14_Validate.f k l0 l1_0 l1_1 a1_2 a1_3 a1_4 a1_5 l1_6 = some r) :
    Calls Try.prog 23 #[.slice A0 l0.length c0, .agg #[.slice A1_0 l1_0.length c1_0, .slice A1_1 l1_1.length c1_1, .int .i64 a1_2, .int .i64 a1_3, .int .i64 a1_4, .int .i64 a1_5, .slice A1_6 l1_6.length c1_6]] w fun e w' => e = .returned (.int .i64 r) ∧ Below w.heap.size w w' := by
 have hu26 := Try.underlying26; have HR0 := Aside0.mk hr0; have HC0 := Aside0.mk hc0; clear hr0 hc0; have HR1_0 := Aside0.mk hr1_0; have HC1_0 := Aside0.mk hc1_0; clear hr1_0 hc1_0; have HR1_1 := Aside0.mk hr1_1; have HC1_1 := Aside0.mk hc1_1; clear hr1_1 hc1_1; have HR1_6 := Aside0.mk hr1_6; have HC1_6 := Aside0.mk hc1_6; clear hr1_6 hc1_6; have HB := Aside0.mk (Below.refl w.heap.size w); have H : ((hinterlandref14_coupled.f k l0 l1_0).bind fun t357 => (if t357 = 0 then (if (l1_1.length : Int) = (l1_0.length : Int) then (hinterlandref14_Validate.l0 k l0 l1_1 (l1_1.length : Int) 0 l1_0 l1_1 a1_2 a1_3 a1_4 a1_5 l1_6) else (some 1)) else (some t357))) = some r := h; clear h; replace H := Option.bind_eq_some_iff.mp H; obtain ⟨t357, A30, H⟩ := H; have A3 := Aside0.mk A30; clear A30
 by_cases c4 : t357 = 0
 ·rw [if_pos c4] at H; have c4b0 : (t357 == 0) = true := beq_iff_eq.mpr c4; have c4b1 : (t357 != 0) = false := bne_eq_false_iff_eq.mpr c4; clear c4
  by_cases c5 : (l1_1.length : Int) = (l1_0.length : Int)
  ·rw [if_pos c5] at H; have c5b0 : ((l1_1.length : Int) == (l1_0.length : Int)) = true := beq_iff_eq.mpr c5; have c5b1 : ((l1_1.length : Int) != (l1_0.length : Int)) = false := bne_eq_false_iff_eq.mpr c5; have c5b2 : (l1_1.length == l1_0.length) = true := by first | simpa using c5 | (simp at c5 ⊢; omega)
   clear c5; have H' := Aside0.mk H; clear H
   go_enter Try.func23, Try.ntmps23
   go_wp2_with (first | ((with_reducible refine gate_dst (N := 3) rfl ?_); refine bx_ (N := 3) (cs := #[.slice A1_0 l1_0.length c1_0, .slice A1_1 l1_1.length c1_1, .int .i64 a1_2, .int .i64 a1_3, .int .i64 a1_4, .int .i64 a1_5, .slice A1_6 l1_6.length c1_6]) (t := 26) ?_; intro gb356 hg w6 hbox hb; have BK356 := Aside0.mk (hbox); have GW356 := Aside0.mk ((dS_ hg (dL_ HB) : w.heap.size ≤ gb356)); have GE356 := GW356; replace HB := Aside0.mk (below_step (dL_ HB) hb); clear hb hbox hg; obtain ⟨z7a, z7b, z7c, z7d, z7e, z7f, z7g, y7a, y7b, y7c, y7d, y7e, y7f, y7g⟩ := cs7_ BK356.out) | ((with_reducible refine gate_callee (f := 34) rfl ?_); refine gL_ (some 11) Try.func34 #[.slice A0 l0.length c0, .slice A1_0 l1_0.length c1_0] ?_ rfl; (with_reducible refine (hinterlandref14_coupled.calls k _ _ l0 _ _ l1_0 t357 _ ?side1 ?side2 ?side3 ?side4 A3.out).mono ?_); (case side1 => exact dC_ HR0 HB); (case side2 => exact HC0.out); (case side3 => exact dC_ HR1_0 HB); (case side4 => exact HC1_0.out); rintro e w8 ⟨rfl, hb⟩; refine ⟨_, rfl, ?_⟩; replace BK356 := bk_ BK356 hb; replace HB := Aside0.mk (below_step (dL1_ HB GE356) hb); obtain ⟨z9a, z9b, z9c, z9d, z9e, z9f, z9g, y9a, y9b, y9c, y9d, y9e, y9f, y9g⟩ := cs7_ BK356.out))
   go_loopg [25] k (fun kq v25 w' => ∃ (x25_1 : Int), v25 = .int .i64 x25_1 ∧ Aside0 (hinterlandref14_Validate.l0 kq l0 l1_1 (l1_1.length : Int) x25_1 l1_0 l1_1 a1_2 a1_3 a1_4 a1_5 l1_6 = some r) ∧ Aside0 (kq ≤ k) ∧ Aside0 (w'.heap[gb356]? = some (.cells #[(.slice A1_0 l1_0.length c1_0), (.slice A1_1 l1_1.length c1_1), .int .i64 a1_2, .int .i64 a1_3, .int .i64 a1_4, .int .i64 a1_5, (.slice A1_6 l1_6.length c1_6)] 26 (0, 0))) ∧ Aside0 (Below w.heap.size w w'))
   case atStart => exact ⟨(0), tS_, H', ⟨Nat.le_refl _⟩, ⟨dB_ BK356⟩, ⟨dL1_ HB GE356⟩⟩
   case round =>
    clear H'; (try clear c4); (try clear c4b0); (try clear c4b1); (try clear c5); (try clear c5b0); (try clear c5b1); (try clear c5b2); (try clear z7a z7b z7c z7d z7e z7f z7g y7a y7b y7c y7d y7e y7f y7g); (try clear z9a z9b z9c z9d z9e z9f z9g y9a y9b y9c y9d y9e y9f y9g); obtain ⟨x25_1, rfl, HA, HK1, BK356, HB⟩ := hrel
    cases gk with
    | zero => exact absurd HA.out (by simp [hinterlandref14_Validate.l0])
    | succ k1 =>
     have H := HA.out; clear HA; simp only [hinterlandref14_Validate.l0] at H
     by_cases c10 : x25_1 < (l1_1.length : Int)
     ·rw [if_pos c10] at H; have c10b0 : decide (x25_1 < (l1_1.length : Int)) = true := decide_eq_true c10; clear c10
      by_cases c11 : 0 ≤ x25_1
      ·rw [if_pos c11] at H; have c11b0 : decide (0 ≤ x25_1) = true := decide_eq_true c11; clear c11
       by_cases c12 : x25_1 < (l1_1.length : Int)
       ·rw [if_pos c12] at H; have c12b0 : decide (x25_1 < (l1_1.length : Int)) = true := decide_eq_true c12; clear c12; have HC13 := Aside0.mk H; clear H; have p358 : 0 ≤ (x25_1 : Int) := of_decide_eq_true tW_; have q358 : x25_1 < (l1_1.length : Int) := of_decide_eq_true tW_; obtain ⟨ad358, e358, hx358_0⟩ := Kd.at_int HR1_1.out x25_1 p358 q358; cases e358; replace hx358_0 := bc_ HB hx358_0; replace p358 := eq_true p358; replace q358 := eq_true q358
        go_upto_region 9 with (fail)
        go_cut [48] (fun v48 wc => ∃ (kq : Nat) (x48_12 : Bool), v48 = .bool x48_12 ∧ Aside0 (hinterlandref14_Validate.j1 kq l0 l1_1 (l1_1.length : Int) x25_1 x48_12 l1_0 l1_1 a1_2 a1_3 a1_4 a1_5 l1_6 = some r) ∧ Aside0 (kq ≤ k1) ∧ Aside0 (wc.heap[gb356]? = some (.cells #[(.slice A1_0 l1_0.length c1_0), (.slice (some ad358) l1_1.length c1_1), .int .i64 a1_2, .int .i64 a1_3, .int .i64 a1_4, .int .i64 a1_5, (.slice A1_6 l1_6.length c1_6)] 26 (0, 0))) ∧ Aside0 (Below w.heap.size w wc))
        case first =>
         have H := HC13.out; clear HC13; replace H := Option.bind_eq_some_iff.mp H; obtain ⟨t359, A140, H⟩ := H; have A14 := Aside0.mk A140; clear A140
         by_cases c15 : t359 = true
         ·subst c15; rw [if_pos rfl] at H
          by_cases c16 : (rd l1_1 x25_1) = (-1)
          ·rw [if_pos c16] at H; have c16b0 : ((rd l1_1 x25_1) == (-1)) = true := beq_iff_eq.mpr c16; have c16b1 : ((rd l1_1 x25_1) != (-1)) = false := bne_eq_false_iff_eq.mpr c16; clear c16
           (first | rw [c16b0] | (simp only [i64_w, i32_w]; rw [c16b0]) | skip)
           have H' := Aside0.mk H; clear H
           go_wp2_with (first | ((with_reducible refine gate_callee (f := 35) rfl ?_); refine gL_ (some 31) Try.func35 #[.int .i64 (rd l1_1 x25_1), .int .i64 (-1), .int .i64 15] ?_ rfl; (with_reducible refine (hinterlandref14_within.calls (rd l1_1 x25_1) (-1) 15 true _ A14.out).mono ?_); rintro e w' ⟨rfl, ⟨nd, rfl⟩⟩; refine ⟨_, rfl, ?_⟩))
           go_meet
           case rel => exact ⟨_, (false), tS_, H', ⟨by have := HK1.out; first | omega | exact Nat.le_refl _⟩, ⟨dB_ BK356⟩, ⟨dL1_ HB GE356⟩⟩
          ·rw [if_neg c16] at H; have c16b0 : ((rd l1_1 x25_1) == (-1)) = false := beq_eq_false_iff_ne.mpr c16; have c16b1 : ((rd l1_1 x25_1) != (-1)) = true := bne_iff_ne.mpr c16
           (first | rw [c16b0] | (simp only [i64_w, i32_w]; rw [c16b0]) | skip)
           by_cases c17 : x25_1 < (l1_0.length : Int)
           ·rw [if_pos c17] at H; have c17b0 : decide (x25_1 < (l1_0.length : Int)) = true := decide_eq_true c17; clear c17
            by_cases c18 : 0 ≤ (rd l1_0 x25_1)
            ·rw [if_pos c18] at H; have c18b0 : decide (0 ≤ (rd l1_0 x25_1)) = true := decide_eq_true c18; clear c18
             by_cases c19 : (rd l1_0 x25_1) < (l0.length : Int)
             ·rw [if_pos c19] at H; have c19b0 : decide ((rd l1_0 x25_1) < (l0.length : Int)) = true := decide_eq_true c19; clear c19; have H' := Aside0.mk H; clear H
              go_wp2_with (first | ((with_reducible refine gate_callee (f := 35) rfl ?_); refine gL_ (some 31) Try.func35 #[.int .i64 (rd l1_1 x25_1), .int .i64 (-1), .int .i64 15] ?_ rfl; (with_reducible refine (hinterlandref14_within.calls (rd l1_1 x25_1) (-1) 15 true _ A14.out).mono ?_); rintro e w' ⟨rfl, ⟨nd, rfl⟩⟩; refine ⟨_, rfl, ?_⟩; obtain ⟨z20a, z20b, z20c, z20d, z20e, z20f, z20g, y20a, y20b, y20c, y20d, y20e, y20f, y20g⟩ := cs7_ BK356.out; have p360 : 0 ≤ (x25_1 : Int) := of_decide_eq_true tW_; have q360 : x25_1 < (l1_0.length : Int) := of_decide_eq_true tW_; obtain ⟨ad360, e360, hx360_0⟩ := Kd.at_int HR1_0.out x25_1 p360 q360; cases e360; replace hx360_0 := bc_ HB hx360_0; replace p360 := eq_true p360; replace q360 := eq_true q360; have p361 : 0 ≤ ((rd l1_0 x25_1) : Int) := of_decide_eq_true tW_; have q361 : (rd l1_0 x25_1) < (l0.length : Int) := of_decide_eq_true tW_; obtain ⟨ad361, e361, hx361_0, hx361_1, hx361_2, hx361_3, hx361_4, hx361_5, hx361_6, hx361_7, hx361_8, hx361_9, hx361_10, hx361_11, hx361_12, hx361_13⟩ := at_T52 HR0.out (rd l1_0 x25_1) p361 q361; cases e361; replace hx361_0 := bc_ HB hx361_0; replace hx361_1 := bc_ HB hx361_1; replace hx361_2 := bc_ HB hx361_2; replace hx361_3 := bc_ HB hx361_3; replace hx361_4 := bc_ HB hx361_4; replace hx361_5 := bc_ HB hx361_5; replace hx361_6 := bc_ HB hx361_6; replace hx361_7 := bc_ HB hx361_7; replace hx361_8 := bc_ HB hx361_8; replace hx361_9 := bc_ HB hx361_9; replace hx361_10 := bc_ HB hx361_10; replace hx361_11 := bc_ HB hx361_11; replace hx361_12 := bc_ HB hx361_12; replace hx361_13 := bc_ HB hx361_13; replace p361 := eq_true p361; replace q361 := eq_true q361))
              go_meet
              case rel => exact ⟨_, ((((rd_T52 l0 (rd l1_0 x25_1)).f7) == 0)), tS_, H', ⟨by have := HK1.out; first | omega | exact Nat.le_refl _⟩, ⟨dB_ BK356⟩, ⟨dL1_ HB GE356⟩⟩
             ·rw [if_neg c19] at H; exact absurd H (by simp)
            ·rw [if_neg c18] at H; exact absurd H (by simp)
           ·rw [if_neg c17] at H; exact absurd H (by simp)
         ·replace c15 := Bool.eq_false_iff.mpr c15; subst c15; rw [if_neg (show ¬ (false = true) by decide)] at H; have H' := Aside0.mk H; clear H
          go_wp2_with (first | ((with_reducible refine gate_callee (f := 35) rfl ?_); refine gL_ (some 31) Try.func35 #[.int .i64 (rd l1_1 x25_1), .int .i64 (-1), .int .i64 15] ?_ rfl; (with_reducible refine (hinterlandref14_within.calls (rd l1_1 x25_1) (-1) 15 false _ A14.out).mono ?_); rintro e w' ⟨rfl, ⟨nd, rfl⟩⟩; refine ⟨_, rfl, ?_⟩))
          go_meet
          case rel => exact ⟨_, (true), tS_, H', ⟨by have := HK1.out; first | omega | exact Nat.le_refl _⟩, ⟨dB_ BK356⟩, ⟨dL1_ HB GE356⟩⟩
        case rest =>
         clear HC13; (try clear c4); (try clear c4b0); (try clear c4b1); (try clear c5); (try clear c5b0); (try clear c5b1); (try clear c5b2); (try clear c10); (try clear c10b0); (try clear c11); (try clear c11b0); (try clear c12); (try clear c12b0); (try clear c16); (try clear c17); (try clear c18); (try clear c19); (try clear z7a z7b z7c z7d z7e z7f z7g y7a y7b y7c y7d y7e y7f y7g); (try clear z9a z9b z9c z9d z9e z9f z9g y9a y9b y9c y9d y9e y9f y9g); (try clear hx358_0); (try clear p358); (try clear q358); obtain ⟨kq, x48_12, rfl, HA, HJ12, BK356, HB⟩ := hcut
         cases kq with
         | zero => exact absurd HA.out (by simp [hinterlandref14_Validate.j1])
         | succ kj12 =>
          have H := HA.out; clear HA; simp only [hinterlandref14_Validate.j1] at H
          by_cases c21 : x48_12 = true
          ·subst c21; rw [if_pos rfl] at H; obtain rfl := Option.some.inj H; go_wp2
           go_ret
           exact ⟨tE_, dL1_ HB GE356⟩
          ·replace c21 := Bool.eq_false_iff.mpr c21; subst c21; rw [if_neg (show ¬ (false = true) by decide)] at H; have H' := Aside0.mk H; clear H; go_wp2
           go_roundg kj12
           case measure => have := HK1.out; have := HJ12.out; omega
           case rel => exact ⟨(wrap64 (x25_1 + 1)), tS_, H', ⟨by have := HK1.out; have := HJ12.out; omega⟩, ⟨dB_ BK356⟩, ⟨dL1_ HB GE356⟩⟩
       ·rw [if_neg c12] at H; exact absurd H (by simp)
      ·rw [if_neg c11] at H; exact absurd H (by simp)
     ·rw [if_neg c10] at H; have c10b0 : decide (x25_1 < (l1_1.length : Int)) = false := decide_eq_false c10; clear c10; have HC22 := Aside0.mk H; clear H
      go_upto_region 12 with (fail)
      go_cut [77] (fun v77 wc => ∃ (kq : Nat) (x77_21 : Bool), v77 = .bool x77_21 ∧ Aside0 (hinterlandref14_Validate.j2 kq x77_21 = some r) ∧ Aside0 (kq ≤ k1) ∧ Aside0 (wc.heap[gb356]? = some (.cells #[(.slice A1_0 l1_0.length c1_0), (.slice A1_1 l1_1.length c1_1), .int .i64 a1_2, .int .i64 a1_3, .int .i64 a1_4, .int .i64 a1_5, (.slice A1_6 l1_6.length c1_6)] 26 (0, 0))) ∧ Aside0 (Below w.heap.size w wc))
      case first =>
       have H := HC22.out; clear HC22; replace H := Option.bind_eq_some_iff.mp H; obtain ⟨t362, A230, H⟩ := H; have A23 := Aside0.mk A230; clear A230
       by_cases c24 : t362 = true
       ·subst c24; rw [if_pos rfl] at H; replace H := Option.bind_eq_some_iff.mp H; obtain ⟨t363, A250, H⟩ := H; have A25 := Aside0.mk A250; clear A250
        by_cases c26 : t363 = true
        ·subst c26; rw [if_pos rfl] at H; replace H := Option.bind_eq_some_iff.mp H; obtain ⟨t364, A270, H⟩ := H; have A27 := Aside0.mk A270; clear A270
         by_cases c28 : t364 = true
         ·subst c28; rw [if_pos rfl] at H; replace H := Option.bind_eq_some_iff.mp H; obtain ⟨t365, A290, H⟩ := H; have A29 := Aside0.mk A290; clear A290
          by_cases c30 : t365 = true
          ·subst c30; rw [if_pos rfl] at H; replace H := Option.bind_eq_some_iff.mp H; obtain ⟨t366, A310, H⟩ := H; have A31 := Aside0.mk A310; clear A310; have H' := Aside0.mk H; clear H; obtain ⟨z32a, z32b, z32c, z32d, z32e, z32f, z32g, y32a, y32b, y32c, y32d, y32e, y32f, y32g⟩ := cs7_ BK356.out
           go_wp2_with (first | ((with_reducible refine gate_callee (f := 35) rfl ?_); refine gL_ (some 52) Try.func35 #[.int .i64 a1_2, .int .i64 0, .int .i64 100000] ?_ rfl; (with_reducible refine (hinterlandref14_within.calls a1_2 0 100000 true _ A23.out).mono ?_); rintro e w' ⟨rfl, ⟨nd, rfl⟩⟩; refine ⟨_, rfl, ?_⟩) | (go_at_call 35; (with_reducible refine (hinterlandref14_within.calls a1_3 0 100000 true _ A25.out).mono ?_); rintro e w' ⟨rfl, ⟨nd, rfl⟩⟩) | (go_at_call 35; (with_reducible refine (hinterlandref14_within.calls a1_4 0 1000 true _ A27.out).mono ?_); rintro e w' ⟨rfl, ⟨nd, rfl⟩⟩) | (go_at_call 35; (with_reducible refine (hinterlandref14_within.calls a1_5 0 1000000 true _ A29.out).mono ?_); rintro e w' ⟨rfl, ⟨nd, rfl⟩⟩) | (go_at_call 36; (with_reducible refine (hinterlandref09_Validate.calls k1 _ _ l1_6 t366 _ ?side1 ?side2 A31.out).mono ?_); (case side1 => repeat (first | exact (Kd.C_below HR1_6.out (dL1_ HB GE356)) | (with_reducible refine Kd.C_alloc ?_ _) | (with_reducible refine Kd.C_drewN ?_ _) | (with_reducible refine Kd.C_drew ?_))); (case side2 => exact HC1_6.out); rintro e w33 ⟨rfl, hb⟩; replace BK356 := bk_ BK356 hb; replace HB := Aside0.mk (below_step (dL1_ HB GE356) hb)))
           go_meet
           case rel => exact ⟨_, ((t366 != 0)), tS_, H', ⟨by have := HK1.out; first | omega | exact Nat.le_refl _⟩, ⟨dB_ BK356⟩, ⟨dL1_ HB GE356⟩⟩
          ·replace c30 := Bool.eq_false_iff.mpr c30; subst c30; rw [if_neg (show ¬ (false = true) by decide)] at H; have H' := Aside0.mk H; clear H; obtain ⟨z34a, z34b, z34c, z34d, z34e, z34f, z34g, y34a, y34b, y34c, y34d, y34e, y34f, y34g⟩ := cs7_ BK356.out
           go_wp2_with (first | ((with_reducible refine gate_callee (f := 35) rfl ?_); refine gL_ (some 52) Try.func35 #[.int .i64 a1_2, .int .i64 0, .int .i64 100000] ?_ rfl; (with_reducible refine (hinterlandref14_within.calls a1_2 0 100000 true _ A23.out).mono ?_); rintro e w' ⟨rfl, ⟨nd, rfl⟩⟩; refine ⟨_, rfl, ?_⟩) | (go_at_call 35; (with_reducible refine (hinterlandref14_within.calls a1_3 0 100000 true _ A25.out).mono ?_); rintro e w' ⟨rfl, ⟨nd, rfl⟩⟩) | (go_at_call 35; (with_reducible refine (hinterlandref14_within.calls a1_4 0 1000 true _ A27.out).mono ?_); rintro e w' ⟨rfl, ⟨nd, rfl⟩⟩) | (go_at_call 35; (with_reducible refine (hinterlandref14_within.calls a1_5 0 1000000 false _ A29.out).mono ?_); rintro e w' ⟨rfl, ⟨nd, rfl⟩⟩))
           go_meet
           case rel => exact ⟨_, (true), tS_, H', ⟨by have := HK1.out; first | omega | exact Nat.le_refl _⟩, ⟨dB_ BK356⟩, ⟨dL1_ HB GE356⟩⟩
         ·replace c28 := Bool.eq_false_iff.mpr c28; subst c28; rw [if_neg (show ¬ (false = true) by decide)] at H; have H' := Aside0.mk H; clear H; obtain ⟨z35a, z35b, z35c, z35d, z35e, z35f, z35g, y35a, y35b, y35c, y35d, y35e, y35f, y35g⟩ := cs7_ BK356.out
          go_wp2_with (first | ((with_reducible refine gate_callee (f := 35) rfl ?_); refine gL_ (some 52) Try.func35 #[.int .i64 a1_2, .int .i64 0, .int .i64 100000] ?_ rfl; (with_reducible refine (hinterlandref14_within.calls a1_2 0 100000 true _ A23.out).mono ?_); rintro e w' ⟨rfl, ⟨nd, rfl⟩⟩; refine ⟨_, rfl, ?_⟩) | (go_at_call 35; (with_reducible refine (hinterlandref14_within.calls a1_3 0 100000 true _ A25.out).mono ?_); rintro e w' ⟨rfl, ⟨nd, rfl⟩⟩) | (go_at_call 35; (with_reducible refine (hinterlandref14_within.calls a1_4 0 1000 false _ A27.out).mono ?_); rintro e w' ⟨rfl, ⟨nd, rfl⟩⟩))
          go_meet
          case rel => exact ⟨_, (true), tS_, H', ⟨by have := HK1.out; first | omega | exact Nat.le_refl _⟩, ⟨dB_ BK356⟩, ⟨dL1_ HB GE356⟩⟩
        ·replace c26 := Bool.eq_false_iff.mpr c26; subst c26; rw [if_neg (show ¬ (false = true) by decide)] at H; have H' := Aside0.mk H; clear H; obtain ⟨z36a, z36b, z36c, z36d, z36e, z36f, z36g, y36a, y36b, y36c, y36d, y36e, y36f, y36g⟩ := cs7_ BK356.out
         go_wp2_with (first | ((with_reducible refine gate_callee (f := 35) rfl ?_); refine gL_ (some 52) Try.func35 #[.int .i64 a1_2, .int .i64 0, .int .i64 100000] ?_ rfl; (with_reducible refine (hinterlandref14_within.calls a1_2 0 100000 true _ A23.out).mono ?_); rintro e w' ⟨rfl, ⟨nd, rfl⟩⟩; refine ⟨_, rfl, ?_⟩) | (go_at_call 35; (with_reducible refine (hinterlandref14_within.calls a1_3 0 100000 false _ A25.out).mono ?_); rintro e w' ⟨rfl, ⟨nd, rfl⟩⟩))
         go_meet
         case rel => exact ⟨_, (true), tS_, H', ⟨by have := HK1.out; first | omega | exact Nat.le_refl _⟩, ⟨dB_ BK356⟩, ⟨dL1_ HB GE356⟩⟩
       ·replace c24 := Bool.eq_false_iff.mpr c24; subst c24; rw [if_neg (show ¬ (false = true) by decide)] at H; have H' := Aside0.mk H; clear H; obtain ⟨z37a, z37b, z37c, z37d, z37e, z37f, z37g, y37a, y37b, y37c, y37d, y37e, y37f, y37g⟩ := cs7_ BK356.out
        go_wp2_with (first | ((with_reducible refine gate_callee (f := 35) rfl ?_); refine gL_ (some 52) Try.func35 #[.int .i64 a1_2, .int .i64 0, .int .i64 100000] ?_ rfl; (with_reducible refine (hinterlandref14_within.calls a1_2 0 100000 false _ A23.out).mono ?_); rintro e w' ⟨rfl, ⟨nd, rfl⟩⟩; refine ⟨_, rfl, ?_⟩))
        go_meet
        case rel => exact ⟨_, (true), tS_, H', ⟨by have := HK1.out; first | omega | exact Nat.le_refl _⟩, ⟨dB_ BK356⟩, ⟨dL1_ HB GE356⟩⟩
      case rest =>
       clear HC22; (try clear c4); (try clear c4b0); (try clear c4b1); (try clear c5); (try clear c5b0); (try clear c5b1); (try clear c5b2); (try clear c10); (try clear c10b0); (try clear c11); (try clear c12); (try clear c16); (try clear c17); (try clear c18); (try clear c19); (try clear z7a z7b z7c z7d z7e z7f z7g y7a y7b y7c y7d y7e y7f y7g); (try clear z9a z9b z9c z9d z9e z9f z9g y9a y9b y9c y9d y9e y9f y9g); obtain ⟨kq, x77_21, rfl, HA, HJ21, BK356, HB⟩ := hcut
       cases kq with
       | zero => exact absurd HA.out (by simp [hinterlandref14_Validate.j2])
       | succ kj21 =>
        have H := HA.out; clear HA; simp only [hinterlandref14_Validate.j2] at H
        by_cases c38 : x77_21 = true
        ·subst c38; rw [if_pos rfl] at H; obtain rfl := Option.some.inj H; go_wp2
         go_ret
         exact ⟨tE_, dL1_ HB GE356⟩
        ·replace c38 := Bool.eq_false_iff.mpr c38; subst c38; rw [if_neg (show ¬ (false = true) by decide)] at H; obtain rfl := Option.some.inj H; go_wp2
         go_ret
         exact ⟨tE_, dL1_ HB GE356⟩
  ·rw [if_neg c5] at H; have c5b0 : ((l1_1.length : Int) == (l1_0.length : Int)) = false := beq_eq_false_iff_ne.mpr c5; have c5b1 : ((l1_1.length : Int) != (l1_0.length : Int)) = true := bne_iff_ne.mpr c5; have c5b2 : (l1_1.length == l1_0.length) = false := by first | simpa using c5 | (simp at c5 ⊢; omega)
   obtain rfl := Option.some.inj H
   go_enter Try.func23, Try.ntmps23
   go_wp2_with (first | ((with_reducible refine gate_dst (N := 3) rfl ?_); refine bx_ (N := 3) (cs := #[.slice A1_0 l1_0.length c1_0, .slice A1_1 l1_1.length c1_1, .int .i64 a1_2, .int .i64 a1_3, .int .i64 a1_4, .int .i64 a1_5, .slice A1_6 l1_6.length c1_6]) (t := 26) ?_; intro gb356 hg w39 hbox hb; have BK356 := Aside0.mk (hbox); have GW356 := Aside0.mk ((dS_ hg (dL_ HB) : w.heap.size ≤ gb356)); have GE356 := GW356; replace HB := Aside0.mk (below_step (dL_ HB) hb); clear hb hbox hg; obtain ⟨z40a, z40b, z40c, z40d, z40e, z40f, z40g, y40a, y40b, y40c, y40d, y40e, y40f, y40g⟩ := cs7_ BK356.out) | ((with_reducible refine gate_callee (f := 34) rfl ?_); refine gL_ (some 11) Try.func34 #[.slice A0 l0.length c0, .slice A1_0 l1_0.length c1_0] ?_ rfl; (with_reducible refine (hinterlandref14_coupled.calls k _ _ l0 _ _ l1_0 t357 _ ?side1 ?side2 ?side3 ?side4 A3.out).mono ?_); (case side1 => exact dC_ HR0 HB); (case side2 => exact HC0.out); (case side3 => exact dC_ HR1_0 HB); (case side4 => exact HC1_0.out); rintro e w41 ⟨rfl, hb⟩; refine ⟨_, rfl, ?_⟩; replace BK356 := bk_ BK356 hb; replace HB := Aside0.mk (below_step (dL1_ HB GE356) hb); obtain ⟨z42a, z42b, z42c, z42d, z42e, z42f, z42g, y42a, y42b, y42c, y42d, y42e, y42f, y42g⟩ := cs7_ BK356.out))
   go_ret
   exact ⟨tE_, dL1_ HB GE356⟩
 ·rw [if_neg c4] at H; have c4b0 : (t357 == 0) = false := beq_eq_false_iff_ne.mpr c4; have c4b1 : (t357 != 0) = true := bne_iff_ne.mpr c4; obtain rfl := Option.some.inj H
  go_enter Try.func23, Try.ntmps23
  go_wp2_with (first | ((with_reducible refine gate_dst (N := 3) rfl ?_); refine bx_ (N := 3) (cs := #[.slice A1_0 l1_0.length c1_0, .slice A1_1 l1_1.length c1_1, .int .i64 a1_2, .int .i64 a1_3, .int .i64 a1_4, .int .i64 a1_5, .slice A1_6 l1_6.length c1_6]) (t := 26) ?_; intro gb356 hg w43 hbox hb; have BK356 := Aside0.mk (hbox); have GW356 := Aside0.mk ((dS_ hg (dL_ HB) : w.heap.size ≤ gb356)); have GE356 := GW356; replace HB := Aside0.mk (below_step (dL_ HB) hb); clear hb hbox hg; obtain ⟨z44a, z44b, z44c, z44d, z44e, z44f, z44g, y44a, y44b, y44c, y44d, y44e, y44f, y44g⟩ := cs7_ BK356.out) | ((with_reducible refine gate_callee (f := 34) rfl ?_); refine gL_ (some 11) Try.func34 #[.slice A0 l0.length c0, .slice A1_0 l1_0.length c1_0] ?_ rfl; (with_reducible refine (hinterlandref14_coupled.calls k _ _ l0 _ _ l1_0 t357 _ ?side1 ?side2 ?side3 ?side4 A3.out).mono ?_); (case side1 => exact dC_ HR0 HB); (case side2 => exact HC0.out); (case side3 => exact dC_ HR1_0 HB); (case side4 => exact HC1_0.out); rintro e w45 ⟨rfl, hb⟩; refine ⟨_, rfl, ?_⟩; replace BK356 := bk_ BK356 hb; replace HB := Aside0.mk (below_step (dL1_ HB GE356) hb)))
  go_ret
  exact ⟨tE_, dL1_ HB GE356⟩

end Go.Proofs.Ytgnahbjpockdmab.Q
namespace Go.Proofs.Ytgnahbjpockdmab.Q
open Go.RowKit Go.Proofs.YtgnahbjpockdmabPrs Go.Proofs.YtgnahbjpockdmabOwn Go.Proofs.YtgnahbjpockdmabW.PrintWords Go.Proofs.YtgnahbjpockdmabW.PrintLast Go.Proofs.YtgnahbjpockdmabW.PrintMore
attribute [local go_sem] max2_int min2_int max_two min_two max_three min_three max_four min_four   -- for this text's walks alone
set_option linter.unusedVariables false
set_option linter.unusedSimpArgs false

/-! ### hinterlandref14_again: function 24 -/
def hinterlandref14_again.f (l0_0 : List Int) (l0_1 : List Int) (a0_2 : Int) (a0_3 : Int) (a0_4 : Int) (a0_5 : Int) (l0_6 : List (S49)) : Option (List Int × List Int × Int × Int × Int × Int × (List (S49))) := if ([] : List Int).length + l0_0.length < 17592186044416 then (if ([] : List Int).length + l0_1.length < 17592186044416 then (if ([] : List (S49)).length + l0_6.length < 2932031007402 then (some ((([] : List Int) ++ l0_0), (([] : List Int) ++ l0_1), a0_2, a0_3, a0_4, a0_5, (([] : List (S49)) ++ l0_6))) else (none)) else (none)) else (none)
set_option maxHeartbeats 8000000 in
set_option maxRecDepth 100000 in
theorem hinterlandref14_again.calls (A0_0 : Option Addr) (c0_0 : Nat) (l0_0 : List Int) (A0_1 : Option Addr) (c0_1 : Nat) (l0_1 : List Int) (a0_2 : Int) (a0_3 : Int) (a0_4 : Int) (a0_5 : Int) (A0_6 : Option Addr) (c0_6 : Nat) (l0_6 : List (S49)) (r1 : List Int) (r2 : List Int) (r3 : Int) (r4 : Int) (r5 : Int) (r6 : Int) (r7 : List (S49)) (w : World) (hr0_0 : Kd.C (Kd.int .i64) w A0_0 l0_0.length l0_0) (hc0_0 : l0_0.length ≤ c0_0) (hr0_1 : Kd.C (Kd.int .i64) w A0_1 l0_1.length l0_1) (hc0_1 : l0_1.length ≤ c0_1) (hr0_6 : Kd.C k49 w A0_6 l0_6.length l0_6) (hc0_6 : l0_6.length ≤ c0_6) (h : hinterlandref14_again.f l0_0 l0_1 a0_2 a0_3 a0_4 a0_5 l0_6 = some (r1, r2, r3, r4, r5, r6, r7)) :
    Calls Try.prog 24 #[.agg #[.slice A0_0 l0_0.length c0_0, .slice A0_1 l0_1.length c0_1, .int .i64 a0_2, .int .i64 a0_3, .int .i64 a0_4, .int .i64 a0_5, .slice A0_6 l0_6.length c0_6]] w fun e w' => ∃ v0_ v1_ v6_ : Value, e = .returned (.agg #[v0_, v1_, .int .i64 r3, .int .i64 r4, .int .i64 r5, .int .i64 r6, v6_]) ∧ Kd.R (Kd.int .i64) 3 w' w.heap.size (fun k_ => some k_ ≠ (v1_ : Value).ownBlock) v0_ r1 ∧ Kd.R (Kd.int .i64) 3 w' w.heap.size (fun k_ => some k_ ≠ (v0_ : Value).ownBlock) v1_ r2 ∧ Kd.R k49 49 w' w.heap.size (fun _ => True) v6_ r7 ∧ Below w.heap.size w w' := by
 have hu26 := Try.underlying26; have HR0_0 := Aside0.mk hr0_0; have HC0_0 := Aside0.mk hc0_0; clear hr0_0 hc0_0; have HR0_1 := Aside0.mk hr0_1; have HC0_1 := Aside0.mk hc0_1; clear hr0_1 hc0_1; have HR0_6 := Aside0.mk hr0_6; have HC0_6 := Aside0.mk hc0_6; clear hr0_6 hc0_6; have HB := Aside0.mk (Below.refl w.heap.size w); have H : (if ([] : List Int).length + l0_0.length < 17592186044416 then (if ([] : List Int).length + l0_1.length < 17592186044416 then (if ([] : List (S49)).length + l0_6.length < 2932031007402 then (some ((([] : List Int) ++ l0_0), (([] : List Int) ++ l0_1), a0_2, a0_3, a0_4, a0_5, (([] : List (S49)) ++ l0_6))) else (none)) else (none)) else (none)) = some (r1, r2, r3, r4, r5, r6, r7) := h; clear h
 by_cases c2 : ([] : List Int).length + l0_0.length < 17592186044416
 ·rw [if_pos c2] at H; have LMc2 := Aside0.mk c2; clear c2; obtain ⟨y369, hy369⟩ : ∃ y_ : List Int, y_ = (([] : List Int) ++ l0_0) := ⟨_, rfl⟩; replace H : (if ([] : List Int).length + l0_1.length < 17592186044416 then (if ([] : List (S49)).length + l0_6.length < 2932031007402 then (some (y369, (([] : List Int) ++ l0_1), a0_2, a0_3, a0_4, a0_5, (([] : List (S49)) ++ l0_6))) else (none)) else (none)) = some (r1, r2, r3, r4, r5, r6, r7) := by first | (rw [hy369]; with_reducible exact H) | (have H2_ := (Option.bind_some _ _).symm.trans H; rw [hy369]; with_reducible exact H2_) | (have H2_ := (Option.bind_some _ _).symm.trans H; with_reducible exact H2_) | with_reducible exact H | (rw [hy369]; exact H) | exact H
  have Ny369 := Aside0.mk hy369; clear hy369
  by_cases c3 : ([] : List Int).length + l0_1.length < 17592186044416
  ·rw [if_pos c3] at H; have LMc3 := Aside0.mk c3; clear c3; obtain ⟨y372, hy372⟩ : ∃ y_ : List Int, y_ = (([] : List Int) ++ l0_1) := ⟨_, rfl⟩; replace H : (if ([] : List (S49)).length + l0_6.length < 2932031007402 then (some (y369, y372, a0_2, a0_3, a0_4, a0_5, (([] : List (S49)) ++ l0_6))) else (none)) = some (r1, r2, r3, r4, r5, r6, r7) := by first | (rw [hy372]; with_reducible exact H) | (have H2_ := (Option.bind_some _ _).symm.trans H; rw [hy372]; with_reducible exact H2_) | (have H2_ := (Option.bind_some _ _).symm.trans H; with_reducible exact H2_) | with_reducible exact H | (rw [hy372]; exact H) | exact H
   have Ny372 := Aside0.mk hy372; clear hy372
   by_cases c4 : ([] : List (S49)).length + l0_6.length < 2932031007402
   ·rw [if_pos c4] at H; have LMc4 := Aside0.mk c4; clear c4; obtain ⟨y375, hy375⟩ : ∃ y_ : List (S49), y_ = (([] : List (S49)) ++ l0_6) := ⟨_, rfl⟩; replace H : (some (y369, y372, a0_2, a0_3, a0_4, a0_5, y375)) = some (r1, r2, r3, r4, r5, r6, r7) := by first | (rw [hy375]; with_reducible exact H) | (have H2_ := (Option.bind_some _ _).symm.trans H; rw [hy375]; with_reducible exact H2_) | (have H2_ := (Option.bind_some _ _).symm.trans H; with_reducible exact H2_) | with_reducible exact H | (rw [hy375]; exact H) | exact H
    have Ny375 := Aside0.mk hy375; clear hy375; simp only [Option.some.injEq, Prod.mk.injEq] at H; obtain ⟨rfl, rfl, rfl, rfl, rfl, rfl, rfl⟩ := H
    go_enter Try.func24, Try.ntmps24
    go_wp2_with (first | ((with_reducible refine gate_dst (N := 1) rfl ?_); refine bx_ (N := 1) (cs := #[.slice A0_0 l0_0.length c0_0, .slice A0_1 l0_1.length c0_1, .int .i64 a0_2, .int .i64 a0_3, .int .i64 a0_4, .int .i64 a0_5, .slice A0_6 l0_6.length c0_6]) (t := 26) ?_; intro gb367 hg w5 hbox hb; have BK367 := Aside0.mk (hbox); have GW367 := Aside0.mk ((dS_ hg (dL_ HB) : w.heap.size ≤ gb367)); have GE367 := GW367; replace HB := Aside0.mk (below_step (dL_ HB) hb); clear hb hbox hg) | ((with_reducible refine gate_dst (N := 2) rfl ?_); refine bx_ (N := 2) (cs := #[.slice none 0 0, .slice none 0 0, .int .i64 0, .int .i64 0, .int .i64 0, .int .i64 0, .slice none 0 0]) (t := 26) ?_; intro gb368 hg w6 hbox hb; have BK368 := Aside0.mk (hbox); have GW368 := Aside0.mk ((dS_ hg (dL1_ HB GE367) : w.heap.size ≤ gb368)); have GE368 := GW368; replace HB := Aside0.mk (below_step (dL1_ HB GE367) hb); have NB367_368 := nb_ hg BK367; have NB368_367 := nc_ hg BK367; replace BK367 := bk_ BK367 hb; clear hb hbox hg; have hnb7 := NB367_368.out; have hnc7 := NB368_367.out; obtain ⟨z8a, z8b, z8c, z8d, z8e, z8f, z8g, y8a, y8b, y8c, y8d, y8e, y8f, y8g⟩ := cs7_ BK367.out) | ((with_reducible refine gate_builtin (b := .append) (xs := #[.const (.slice none 0 0), .tmp 4]) rfl ?_); at_builtin; refine Kd.R_append_rows (Kd.int .i64) (w0 := w) w.heap.size rfl (.const (.slice none 0 0)) (.tmp 4) 23 3 (.int .i64 0) 8 rfl Try.underlying23 info3 rfl (by decide) (by omega) (.slice none 0 0) ([] : List Int) l0_0 _ _ _ (fun _ => True) (fun _ => False) rfl rfl ?aO ?aR (fun _ _ h => h) (fun _ h => h.elim) ?aF ?aB ?aS ?aL ?_; (case aR => exact dC_ HR0_0 HB); (case aB => exact (dL2_ HB GE367 GE368)); (case aF => exact (fun _ _ => trivial)); (case aO => exact ((Kd.R_nil _ _ _ _ (fun _ => True)))); (case aS => exact (below_size (dL2_ HB GE367 GE368))); (case aL => have := LMc2.out; omega); intro v370 w9 ho hb hg hat; rw [← Ny369.out] at ho; replace BK367 := Aside0.mk (blk_grown (g := gb367) (o := .cells #[.slice A0_0 l0_0.length c0_0, .slice A0_1 l0_1.length c0_1, .int .i64 a0_2, .int .i64 a0_3, .int .i64 a0_4, .int .i64 a0_5, .slice A0_6 l0_6.length c0_6] 26 (0, 0)) (dB_ BK367) hg (by simp [Value.ownBlock])); replace BK368 := Aside0.mk (blk_grown (g := gb368) (o := .cells #[.slice none 0 0, .slice none 0 0, .int .i64 0, .int .i64 0, .int .i64 0, .int .i64 0, .slice none 0 0] 26 (0, 0)) (dB_ BK368) hg (by simp [Value.ownBlock])); replace HB := Aside0.mk (hb); have HO371 := Aside0.mk (ho); clear ho hb hg hat; obtain ⟨Ao10, co10, eo10⟩ := Kd.R_slice HO371.out; subst eo10; obtain ⟨z11a, z11b, z11c, z11d, z11e, z11f, z11g, y11a, y11b, y11c, y11d, y11e, y11f, y11g⟩ := cs7_ BK367.out) | ((with_reducible refine gate_builtin (b := .append) (xs := #[.const (.slice none 0 0), .tmp 8]) rfl ?_); at_builtin; refine Kd.R_append_rows (Kd.int .i64) (w0 := w) w.heap.size rfl (.const (.slice none 0 0)) (.tmp 8) 23 3 (.int .i64 0) 8 rfl Try.underlying23 info3 rfl (by decide) (by omega) (.slice none 0 0) ([] : List Int) l0_1 _ _ _ (fun k_ => some k_ ≠ (.slice Ao10 y369.length co10 : Value).ownBlock) (fun _ => False) rfl rfl ?aO ?aR (fun _ _ h => h) (fun _ h => h.elim) ?aF ?aB ?aS ?aL ?_; (case aR => exact Kd.C_below HR0_1.out (dL2_ HB GE367 GE368)); (case aB => exact (dL2_ HB GE367 GE368)); (case aF => exact (fun k_ hk => Kd.fresh' (Kd.R_lt (rz1_ HO371 BK367)) k_ hk)); (case aO => exact ((Kd.R_nil _ _ _ _ (fun k_ => some k_ ≠ (.slice Ao10 y369.length co10 : Value).ownBlock)))); (case aS => exact (below_size (dL2_ HB GE367 GE368))); (case aL => have := LMc3.out; omega); intro v373 w12 ho hb hg hat; rw [← Ny372.out] at ho; replace BK368 := Aside0.mk (blk_grown (g := gb368) (o := .cells #[.slice none 0 0, .slice none 0 0, .int .i64 0, .int .i64 0, .int .i64 0, .int .i64 0, .slice none 0 0] 26 (0, 0)) (bz_ BK368) hg (by simp [Value.ownBlock])); replace HO371 := Aside0.mk (Kd.R_after (Kd.R_apart_nil (rz1_ HO371 BK367)) hg hat); replace BK367 := Aside0.mk (blk_grown (g := gb367) (o := .cells #[.slice Ao10 y369.length co10, .slice A0_1 l0_1.length c0_1, .int .i64 a0_2, .int .i64 a0_3, .int .i64 a0_4, .int .i64 a0_5, .slice A0_6 l0_6.length c0_6] 26 (0, 0)) (bz_ BK367) hg (by simp [Value.ownBlock])); replace HB := Aside0.mk (hb); have HO374 := Aside0.mk (ho); clear ho hb hg hat; obtain ⟨Ao13, co13, eo13⟩ := Kd.R_slice HO374.out; subst eo13; obtain ⟨z14a, z14b, z14c, z14d, z14e, z14f, z14g, y14a, y14b, y14c, y14d, y14e, y14f, y14g⟩ := cs7_ BK367.out) | ((with_reducible refine gate_builtin (b := .append) (xs := #[.const (.slice none 0 0), .tmp 12]) rfl ?_); at_builtin; refine Kd.R_append_rows k49 (w0 := w) w.heap.size rfl (.const (.slice none 0 0)) (.tmp 12) 24 49 (.agg #[(.int .i64 0), (.int .i64 0), (.int .i64 0), (.int .i64 0), (.int .i64 0), (.int .i64 0)]) 48 rfl Try.underlying24 info49 rfl (by decide) (by omega) (.slice none 0 0) ([] : List (S49)) l0_6 _ _ _ (fun _ => True) (fun _ => False) rfl rfl ?aO ?aR (fun _ _ h => h) (fun _ h => h.elim) ?aF ?aB ?aS ?aL ?_; (case aR => exact Kd.C_below HR0_6.out (dL2_ HB GE367 GE368)); (case aB => exact (dL2_ HB GE367 GE368)); (case aF => exact (fun _ _ => trivial)); (case aO => exact ((Kd.R_nil _ _ _ _ (fun _ => True)))); (case aS => exact (below_size (dL2_ HB GE367 GE368))); (case aL => have := LMc4.out; omega); intro v376 w15 ho hb hg hat; rw [← Ny375.out] at ho; replace BK368 := Aside0.mk (blk_grown (g := gb368) (o := .cells #[.slice none 0 0, .slice none 0 0, .int .i64 0, .int .i64 0, .int .i64 0, .int .i64 0, .slice none 0 0] 26 (0, 0)) (bz_ BK368) hg (by simp [Value.ownBlock])); replace HO371 := Aside0.mk (Kd.R_grown (rz1_ HO371 BK367) hg (fun _ _ => by simp [Value.ownBlock])); replace HO374 := Aside0.mk (Kd.R_grown (rz1_ HO374 BK367) hg (fun _ _ => by simp [Value.ownBlock])); replace BK367 := Aside0.mk (blk_grown (g := gb367) (o := .cells #[.slice Ao10 y369.length co10, .slice Ao13 y372.length co13, .int .i64 a0_2, .int .i64 a0_3, .int .i64 a0_4, .int .i64 a0_5, .slice A0_6 l0_6.length c0_6] 26 (0, 0)) (bz_ BK367) hg (by simp [Value.ownBlock])); replace HB := Aside0.mk (hb); have HO377 := Aside0.mk (ho); clear ho hb hg hat; obtain ⟨Ao16, co16, eo16⟩ := Kd.R_slice HO377.out; subst eo16; obtain ⟨z17a, z17b, z17c, z17d, z17e, z17f, z17g, y17a, y17b, y17c, y17d, y17e, y17f, y17g⟩ := cs7_ BK367.out; obtain ⟨z18a, z18b, z18c, z18d, z18e, z18f, z18g, y18a, y18b, y18c, y18d, y18e, y18f, y18g⟩ := cs7_ BK368.out))
    refine bodyPost_ret (results_cell_row rfl _ _ gb368 26 #[.slice Ao10 y369.length co10, .slice Ao13 y372.length co13, .int .i64 a0_2, .int .i64 a0_3, .int .i64 a0_4, .int .i64 a0_5, .slice Ao16 y375.length co16] (0, 0) _ rfl (bz_ BK368) Try.underlying26 rfl (by kernel_rfl)) rfl ?_; exact ⟨_, _, _, tE_, by (with_reducible repeat (first | apply Kd.R_alloc | apply Kd.R_drewN | apply Kd.R_drew)); exact Kd.R_mono (fz2_ HO371 BK367 BK368) (fun _ hk => hk.1.1.2), by (with_reducible repeat (first | apply Kd.R_alloc | apply Kd.R_drewN | apply Kd.R_drew)); exact Kd.R_mono (fz2_ HO374 BK367 BK368) (fun _ hk => hk.1.1), by (with_reducible repeat (first | apply Kd.R_alloc | apply Kd.R_drewN | apply Kd.R_drew)); exact Kd.R_mono (fz2_ HO377 BK367 BK368) (fun _ hk => trivial), dL2_ HB GE367 GE368⟩
   ·rw [if_neg c4] at H; exact absurd H (by simp)
  ·rw [if_neg c3] at H; exact absurd H (by simp)
 ·rw [if_neg c2] at H; exact absurd H (by simp)

end Go.Proofs.Ytgnahbjpockdmab.Q
namespace Go.Proofs.Ytgnahbjpockdmab.Q
open Go.RowKit Go.Proofs.YtgnahbjpockdmabPrs Go.Proofs.YtgnahbjpockdmabOwn Go.Proofs.YtgnahbjpockdmabW.PrintWords Go.Proofs.YtgnahbjpockdmabW.PrintLast Go.Proofs.YtgnahbjpockdmabW.PrintMore
attribute [local go_sem] max2_int min2_int max_two min_two max_three min_three max_four min_four   -- for this text's walks alone
set_option linter.unusedVariables false
set_option linter.unusedSimpArgs false

/-! ### hinterlandref14_carries: function 25 -/
def hinterlandref14_carries.f (a0_0 : ByteArray) (a0_1 : Int) (a0_2 : Int) (a0_3 : Int) (a0_4 : Int) (a0_5 : Int) (a0_6 : Int) (a0_7 : Int) (a0_8 : Int) (a0_9 : Int) (a0_10 : Int) (a0_11 : Int) (a0_12 : Int) (a0_13 : Bool) : Option (Int) := if a0_7 = 0 then (some (-1)) else (some a0_6)
set_option maxHeartbeats 8000000 in
set_option maxRecDepth 100000 in
theorem hinterlandref14_carries.calls (a0_0 : ByteArray) (a0_1 : Int) (a0_2 : Int) (a0_3 : Int) (a0_4 : Int) (a0_5 : Int) (a0_6 : Int) (a0_7 : Int) (a0_8 : Int) (a0_9 : Int) (a0_10 : Int) (a0_11 : Int) (a0_12 : Int) (a0_13 : Bool) (r : Int) (w : World) (h : hinterlandref14_carries.f a0_0 a0_1 a0_2 a0_3 a0_4 a0_5 a0_6 a0_7 a0_8 a0_9 a0_10 a0_11 a0_12 a0_13 = some r) :
    Calls Try.prog 25 #[.agg #[.string a0_0, .int .i64 a0_1, .int .i64 a0_2, .int .i64 a0_3, .int .i64 a0_4, .int .i64 a0_5, .int .i64 a0_6, .int .i64 a0_7, .int .i64 a0_8, .int .i64 a0_9, .int .i64 a0_10, .int .i64 a0_11, .int .i64 a0_12, .bool a0_13]] w fun e w' => e = .returned (.int .i64 r) ∧ Below w.heap.size w w' := by
 have hu52 := Try.underlying52; have HB := Aside0.mk (Below.refl w.heap.size w); have H : (if a0_7 = 0 then (some (-1)) else (some a0_6)) = some r := h; clear h
 by_cases c2 : a0_7 = 0
 ·rw [if_pos c2] at H; have c2b0 : (a0_7 == 0) = true := beq_iff_eq.mpr c2; have c2b1 : (a0_7 != 0) = false := bne_eq_false_iff_eq.mpr c2; clear c2; obtain rfl := Option.some.inj H
  go_enter Try.func25, Try.ntmps25
  go_wp2_with (first | ((with_reducible refine gate_dst (N := 1) rfl ?_); refine bx_ (N := 1) (cs := #[.string a0_0, .int .i64 a0_1, .int .i64 a0_2, .int .i64 a0_3, .int .i64 a0_4, .int .i64 a0_5, .int .i64 a0_6, .int .i64 a0_7, .int .i64 a0_8, .int .i64 a0_9, .int .i64 a0_10, .int .i64 a0_11, .int .i64 a0_12, .bool a0_13]) (t := 52) ?_; intro gb378 hg w3 hbox hb; have BK378 := Aside0.mk (hbox); have GW378 := Aside0.mk ((dS_ hg (dL_ HB) : w.heap.size ≤ gb378)); have GE378 := GW378; replace HB := Aside0.mk (below_step (dL_ HB) hb); clear hb hbox hg; obtain ⟨z4a, z4b, z4c, z4d, z4e, z4f, z4g, z4h, z4i, z4j, z4k, z4l, z4m, z4n, y4a, y4b, y4c, y4d, y4e, y4f, y4g, y4h, y4i, y4j, y4k, y4l, y4m, y4n⟩ := cs14_ BK378.out))
  go_ret
  exact ⟨tE_, dL1_ HB GE378⟩
 ·rw [if_neg c2] at H; have c2b0 : (a0_7 == 0) = false := beq_eq_false_iff_ne.mpr c2; have c2b1 : (a0_7 != 0) = true := bne_iff_ne.mpr c2; obtain rfl := Option.some.inj H
  go_enter Try.func25, Try.ntmps25
  go_wp2_with (first | ((with_reducible refine gate_dst (N := 1) rfl ?_); refine bx_ (N := 1) (cs := #[.string a0_0, .int .i64 a0_1, .int .i64 a0_2, .int .i64 a0_3, .int .i64 a0_4, .int .i64 a0_5, .int .i64 a0_6, .int .i64 a0_7, .int .i64 a0_8, .int .i64 a0_9, .int .i64 a0_10, .int .i64 a0_11, .int .i64 a0_12, .bool a0_13]) (t := 52) ?_; intro gb378 hg w5 hbox hb; have BK378 := Aside0.mk (hbox); have GW378 := Aside0.mk ((dS_ hg (dL_ HB) : w.heap.size ≤ gb378)); have GE378 := GW378; replace HB := Aside0.mk (below_step (dL_ HB) hb); clear hb hbox hg; obtain ⟨z6a, z6b, z6c, z6d, z6e, z6f, z6g, z6h, z6i, z6j, z6k, z6l, z6m, z6n, y6a, y6b, y6c, y6d, y6e, y6f, y6g, y6h, y6i, y6j, y6k, y6l, y6m, y6n⟩ := cs14_ BK378.out))
  go_ret
  exact ⟨tE_, dL1_ HB GE378⟩

/-! ### hinterlandref14_value: function 26 -/
def hinterlandref14_value.f (a0_0 : ByteArray) (a0_1 : Int) (a0_2 : Int) (a0_3 : Int) (a0_4 : Int) (a0_5 : Int) (a0_6 : Int) (a0_7 : Int) (a0_8 : Int) (a0_9 : Int) (a0_10 : Int) (a0_11 : Int) (a0_12 : Int) (a0_13 : Bool) (a1 : Int) : Option (Int) := if (wrap64 (730 * a0_11)) = 0 then (none) else (some (wrap64 (Int.tdiv (wrap64 (a0_9 * (mx (wrap64 ((wrap64 (730 * a0_11)) - a1)) 0))) (wrap64 (730 * a0_11)))))
set_option maxHeartbeats 8000000 in
set_option maxRecDepth 100000 in
theorem hinterlandref14_value.calls (a0_0 : ByteArray) (a0_1 : Int) (a0_2 : Int) (a0_3 : Int) (a0_4 : Int) (a0_5 : Int) (a0_6 : Int) (a0_7 : Int) (a0_8 : Int) (a0_9 : Int) (a0_10 : Int) (a0_11 : Int) (a0_12 : Int) (a0_13 : Bool) (a1 : Int) (r : Int) (w : World) (h : hinterlandref14_value.f a0_0 a0_1 a0_2 a0_3 a0_4 a0_5 a0_6 a0_7 a0_8 a0_9 a0_10 a0_11 a0_12 a0_13 a1 = some r) :
    Calls Try.prog 26 #[.agg #[.string a0_0, .int .i64 a0_1, .int .i64 a0_2, .int .i64 a0_3, .int .i64 a0_4, .int .i64 a0_5, .int .i64 a0_6, .int .i64 a0_7, .int .i64 a0_8, .int .i64 a0_9, .int .i64 a0_10, .int .i64 a0_11, .int .i64 a0_12, .bool a0_13], .int .i64 a1] w fun e w' => e = .returned (.int .i64 r) ∧ Below w.heap.size w w' := by
 have hu52 := Try.underlying52; have HB := Aside0.mk (Below.refl w.heap.size w); have H : (if (wrap64 (730 * a0_11)) = 0 then (none) else (some (wrap64 (Int.tdiv (wrap64 (a0_9 * (mx (wrap64 ((wrap64 (730 * a0_11)) - a1)) 0))) (wrap64 (730 * a0_11)))))) = some r := h; clear h; obtain ⟨ji3, hji3⟩ : ∃ j_ : Int, (mx (wrap64 ((wrap64 (730 * a0_11)) - a1)) 0) = j_ := ⟨_, rfl⟩; replace H : (if (wrap64 (730 * a0_11)) = 0 then (none) else (some (wrap64 (Int.tdiv (wrap64 (a0_9 * (ji3))) (wrap64 (730 * a0_11)))))) = some r := by first | (rw [hji3] at H; exact H) | (simp only [hji3] at H ⊢; exact H)
 (try (have hji3l : 0 ≤ ji3 := by (rw [← hji3]; unfold mx; (repeat' split) <;> omega))); (try (have hji3m : 0 ≤ ji3 := by omega)); have hji3_ : (if (wrap64 ((wrap64 (730 * a0_11)) - a1)) < 0 then 0 else (wrap64 ((wrap64 (730 * a0_11)) - a1))) = ji3 := hji3
 by_cases c4 : (wrap64 (730 * a0_11)) = 0
 ·rw [if_pos c4] at H; exact absurd H (by simp)
 ·rw [if_neg c4] at H; have c4b0 : ((wrap64 (730 * a0_11)) == 0) = false := beq_eq_false_iff_ne.mpr c4; have c4b1 : ((wrap64 (730 * a0_11)) != 0) = true := bne_iff_ne.mpr c4; obtain rfl := Option.some.inj H
  go_enter Try.func26, Try.ntmps26
  go_wp2_with (first | ((with_reducible refine gate_dst (N := 2) rfl ?_); refine bx_ (N := 2) (cs := #[.string a0_0, .int .i64 a0_1, .int .i64 a0_2, .int .i64 a0_3, .int .i64 a0_4, .int .i64 a0_5, .int .i64 a0_6, .int .i64 a0_7, .int .i64 a0_8, .int .i64 a0_9, .int .i64 a0_10, .int .i64 a0_11, .int .i64 a0_12, .bool a0_13]) (t := 52) ?_; intro gb379 hg w5 hbox hb; have BK379 := Aside0.mk (hbox); have GW379 := Aside0.mk ((dS_ hg (dL_ HB) : w.heap.size ≤ gb379)); have GE379 := GW379; replace HB := Aside0.mk (below_step (dL_ HB) hb); clear hb hbox hg; obtain ⟨z6a, z6b, z6c, z6d, z6e, z6f, z6g, z6h, z6i, z6j, z6k, z6l, z6m, z6n, y6a, y6b, y6c, y6d, y6e, y6f, y6g, y6h, y6i, y6j, y6k, y6l, y6m, y6n⟩ := cs14_ BK379.out))
  go_ret
  exact ⟨by first | rfl | (simp [errW_none, errW_some] <;> rfl) | (simp only [← hji3]; first | rfl | (simp [errW_none, errW_some] <;> rfl)) | (simp [*, errW_none, errW_some] <;> rfl), dL1_ HB GE379⟩

end Go.Proofs.Ytgnahbjpockdmab.Q
namespace Go.Proofs.Ytgnahbjpockdmab.Q
open Go.RowKit Go.Proofs.YtgnahbjpockdmabPrs Go.Proofs.YtgnahbjpockdmabOwn Go.Proofs.YtgnahbjpockdmabW.PrintWords Go.Proofs.YtgnahbjpockdmabW.PrintLast Go.Proofs.YtgnahbjpockdmabW.PrintMore
attribute [local go_sem] max2_int min2_int max_two min_two max_three min_three max_four min_four   -- for this text's walks alone
set_option linter.unusedVariables false
set_option linter.unusedSimpArgs false

attribute [local go_sem high] eqA49
/-! ### api_Parcel: function 16 -/
def api_Parcel.l0 : Nat → List (S49) → List (S49) → Int → Option (Bool)
  | 0, _, _, _ => none
  | k + 1, x0, x1, x5 => if x5 < (x0.length : Int) then (if 0 ≤ x5 then (if x5 < (x1.length : Int) then (if (!(((rd_T49 x0 x5).f0) == ((rd_T49 x1 x5).f0)) || (!(((rd_T49 x0 x5).f1) == ((rd_T49 x1 x5).f1)) || (!(((rd_T49 x0 x5).f2) == ((rd_T49 x1 x5).f2)) || (!(((rd_T49 x0 x5).f3) == ((rd_T49 x1 x5).f3)) || (!(((rd_T49 x0 x5).f4) == ((rd_T49 x1 x5).f4)) || (!(((rd_T49 x0 x5).f5) == ((rd_T49 x1 x5).f5)))))))) = true then (some false) else (api_Parcel.l0 k x0 x1 (wrap64 (x5 + 1)))) else (none)) else (none)) else (some true)
def api_Parcel.f (k : Nat) (l0 : List (S49)) (l1 : List (S49)) : Option (Bool) := if (l0.length : Int) = (l1.length : Int) then (api_Parcel.l0 k l0 l1 0) else (some false)
theorem api_Parcel.mono_l : ∀ k, (∀ y0 y1 y2, LeO (api_Parcel.l0 k y0 y1 y2) (api_Parcel.l0 (k + 1) y0 y1 y2))
  | 0 => fun _ _ _ r h => by simp [api_Parcel.l0] at h
  | k + 1 => by
    have ih0 := api_Parcel.mono_l k
    · intro y0 y1 y2
      unfold api_Parcel.l0
      repeat' first
      | (with_reducible first | apply ih0 | exact LeO.refl _ | exact LeO.none _ | refine LeO.ite ?_ ?_ | refine LeO.bind ?_ (fun _ => ?_))
theorem api_Parcel.mono : ∀ a0 a1 k, LeO (api_Parcel.f k a0 a1) (api_Parcel.f (k + 1) a0 a1) := by
  intro a0 a1 k; have ih0 := api_Parcel.mono_l k
  unfold api_Parcel.f
  repeat' first
      | (with_reducible first | apply ih0 | exact LeO.refl _ | exact LeO.none _ | refine LeO.ite ?_ ?_ | refine LeO.bind ?_ (fun _ => ?_))
set_option maxHeartbeats 8000000 in
set_option maxRecDepth 100000 in
theorem api_Parcel.calls (k : Nat) (A0 : Option Addr) (c0 : Nat) (l0 : List (S49)) (A1 : Option Addr) (c1 : Nat) (l1 : List (S49)) (r : Bool) (w : World) (hr0 : Kd.C k49 w A0 l0.length l0) (hc0 : l0.length ≤ c0) (hr1 : Kd.C k49 w A1 l1.length l1) (hc1 : l1.length ≤ c1) (h : api_Parcel.f k l0 l1 = some r) :
    Calls Try.prog 16 #[.slice A0 l0.length c0, .slice A1 l1.length c1] w fun e w' => e = .returned (.bool r) ∧ Drawn0 w w' := by
 have hu49 := Try.underlying49; have HR0 := Aside0.mk hr0; have HC0 := Aside0.mk hc0; clear hr0 hc0; have HR1 := Aside0.mk hr1; have HC1 := Aside0.mk hc1; clear hr1 hc1; have H : (if (l0.length : Int) = (l1.length : Int) then (api_Parcel.l0 k l0 l1 0) else (some false)) = some r := h; clear h
 by_cases c3 : (l0.length : Int) = (l1.length : Int)
 ·rw [if_pos c3] at H; have c3b0 : ((l0.length : Int) == (l1.length : Int)) = true := beq_iff_eq.mpr c3; have c3b1 : ((l0.length : Int) != (l1.length : Int)) = false := bne_eq_false_iff_eq.mpr c3; have c3b2 : (l0.length == l1.length) = true := by first | simpa using c3 | (simp at c3 ⊢; omega)
  clear c3; have H' := Aside0.mk H; clear H
  go_enter Try.func16, Try.ntmps16
  go_wp2
  repeat (go_quiet (fail); try go_wp2)
  go_loopg [5] k (fun kq v5 w' => ∃ (x5_1 : Int), v5 = .int .i64 x5_1 ∧ Aside0 (api_Parcel.l0 kq l0 l1 x5_1 = some r) ∧ Aside0 (kq ≤ k) ∧ Drawn0 w w')
  case atStart => exact ⟨(0), tS_, H', ⟨Nat.le_refl _⟩, by repeat (first | exact Drawn0.refl _ | apply Drawn0.step)⟩
  case round =>
   clear H'; (try clear c1); (try clear c3); (try clear c3b0); (try clear c3b1); (try clear c3b2); obtain ⟨x5_1, rfl, HA, HK1, ⟨m1, rfl⟩⟩ := hrel
   cases gk with
   | zero => exact absurd HA.out (by simp [api_Parcel.l0])
   | succ k1 =>
    have H := HA.out; clear HA; simp only [api_Parcel.l0] at H
    by_cases c4 : x5_1 < (l0.length : Int)
    ·rw [if_pos c4] at H; have c4b0 : decide (x5_1 < (l0.length : Int)) = true := decide_eq_true c4; clear c4
     by_cases c5 : 0 ≤ x5_1
     ·rw [if_pos c5] at H; have c5b0 : decide (0 ≤ x5_1) = true := decide_eq_true c5; clear c5
      by_cases c6 : x5_1 < (l1.length : Int)
      ·rw [if_pos c6] at H; have c6b0 : decide (x5_1 < (l1.length : Int)) = true := decide_eq_true c6; clear c6
       by_cases c7 : (!(((rd_T49 l0 x5_1).f0) == ((rd_T49 l1 x5_1).f0)) || (!(((rd_T49 l0 x5_1).f1) == ((rd_T49 l1 x5_1).f1)) || (!(((rd_T49 l0 x5_1).f2) == ((rd_T49 l1 x5_1).f2)) || (!(((rd_T49 l0 x5_1).f3) == ((rd_T49 l1 x5_1).f3)) || (!(((rd_T49 l0 x5_1).f4) == ((rd_T49 l1 x5_1).f4)) || (!(((rd_T49 l0 x5_1).f5) == ((rd_T49 l1 x5_1).f5)))))))) = true
       ·rw [if_pos c7] at H; have c7b0 : (!(((rd_T49 l0 x5_1).f0) == ((rd_T49 l1 x5_1).f0)) || (!(((rd_T49 l0 x5_1).f1) == ((rd_T49 l1 x5_1).f1)) || (!(((rd_T49 l0 x5_1).f2) == ((rd_T49 l1 x5_1).f2)) || (!(((rd_T49 l0 x5_1).f3) == ((rd_T49 l1 x5_1).f3)) || (!(((rd_T49 l0 x5_1).f4) == ((rd_T49 l1 x5_1).f4)) || (!(((rd_T49 l0 x5_1).f5) == ((rd_T49 l1 x5_1).f5)))))))) = true := c7; clear c7; obtain rfl := Option.some.inj H; have p411 : 0 ≤ (x5_1 : Int) := of_decide_eq_true tW_; have q411 : x5_1 < (l0.length : Int) := of_decide_eq_true tW_; obtain ⟨ad411, e411, hx411_0, hx411_1, hx411_2, hx411_3, hx411_4, hx411_5⟩ := at_T49 HR0.out x5_1 p411 q411; cases e411; replace p411 := eq_true p411; replace q411 := eq_true q411; have p412 : 0 ≤ (x5_1 : Int) := of_decide_eq_true tW_; have q412 : x5_1 < (l1.length : Int) := of_decide_eq_true tW_; obtain ⟨ad412, e412, hx412_0, hx412_1, hx412_2, hx412_3, hx412_4, hx412_5⟩ := at_T49 HR1.out x5_1 p412 q412; cases e412; replace p412 := eq_true p412; replace q412 := eq_true q412; go_wp2
        repeat (go_quiet (fail); try go_wp2)
        go_ret
        exact ⟨tS_, by repeat (first | exact Drawn0.refl _ | apply Drawn0.step)⟩
       ·rw [if_neg c7] at H; have c7b0 : (!(((rd_T49 l0 x5_1).f0) == ((rd_T49 l1 x5_1).f0)) || (!(((rd_T49 l0 x5_1).f1) == ((rd_T49 l1 x5_1).f1)) || (!(((rd_T49 l0 x5_1).f2) == ((rd_T49 l1 x5_1).f2)) || (!(((rd_T49 l0 x5_1).f3) == ((rd_T49 l1 x5_1).f3)) || (!(((rd_T49 l0 x5_1).f4) == ((rd_T49 l1 x5_1).f4)) || (!(((rd_T49 l0 x5_1).f5) == ((rd_T49 l1 x5_1).f5)))))))) = false := by simpa using c7
        clear c7; have H' := Aside0.mk H; clear H; have p411 : 0 ≤ (x5_1 : Int) := of_decide_eq_true tW_; have q411 : x5_1 < (l0.length : Int) := of_decide_eq_true tW_; obtain ⟨ad411, e411, hx411_0, hx411_1, hx411_2, hx411_3, hx411_4, hx411_5⟩ := at_T49 HR0.out x5_1 p411 q411; cases e411; replace p411 := eq_true p411; replace q411 := eq_true q411; have p412 : 0 ≤ (x5_1 : Int) := of_decide_eq_true tW_; have q412 : x5_1 < (l1.length : Int) := of_decide_eq_true tW_; obtain ⟨ad412, e412, hx412_0, hx412_1, hx412_2, hx412_3, hx412_4, hx412_5⟩ := at_T49 HR1.out x5_1 p412 q412; cases e412; replace p412 := eq_true p412; replace q412 := eq_true q412; go_wp2
        repeat (go_quiet (fail); try go_wp2)
        go_roundg k1
        case measure => have := HK1.out; omega
        case rel => exact ⟨(wrap64 (x5_1 + 1)), tS_, H', ⟨by have := HK1.out; omega⟩, by repeat (first | exact Drawn0.refl _ | apply Drawn0.step)⟩
      ·rw [if_neg c6] at H; exact absurd H (by simp)
     ·rw [if_neg c5] at H; exact absurd H (by simp)
    ·rw [if_neg c4] at H; have c4b0 : decide (x5_1 < (l0.length : Int)) = false := decide_eq_false c4; clear c4; obtain rfl := Option.some.inj H; go_wp2
     repeat (go_quiet (fail); try go_wp2)
     go_ret
     exact ⟨tS_, by repeat (first | exact Drawn0.refl _ | apply Drawn0.step)⟩
 ·rw [if_neg c3] at H; have c3b0 : ((l0.length : Int) == (l1.length : Int)) = false := beq_eq_false_iff_ne.mpr c3; have c3b1 : ((l0.length : Int) != (l1.length : Int)) = true := bne_iff_ne.mpr c3; have c3b2 : (l0.length == l1.length) = false := by first | simpa using c3 | (simp at c3 ⊢; omega)
  obtain rfl := Option.some.inj H
  go_enter Try.func16, Try.ntmps16
  go_wp2
  repeat (go_quiet (fail); try go_wp2)
  go_ret
  exact ⟨tS_, by repeat (first | exact Drawn0.refl _ | apply Drawn0.step)⟩

end Go.Proofs.Ytgnahbjpockdmab.Q
