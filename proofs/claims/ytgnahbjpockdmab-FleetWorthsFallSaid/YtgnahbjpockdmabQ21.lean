-- PRINTED by print.py out of the translation. Not trusted: Lean checks it.
import Derived.Test.YtgnahbjpockdmabPrs
import Derived.Test.YtgnahbjpockdmabQ0
import Derived.Test.YtgnahbjpockdmabQ2
import Derived.Test.YtgnahbjpockdmabQ9
import Derived.Test.YtgnahbjpockdmabQ20
namespace Go.Proofs.Ytgnahbjpockdmab.Q
open Go.RowKit Go.Proofs.YtgnahbjpockdmabPrs Go.Proofs.YtgnahbjpockdmabOwn Go.Proofs.YtgnahbjpockdmabW.PrintWords Go.Proofs.YtgnahbjpockdmabW.PrintLast Go.Proofs.YtgnahbjpockdmabW.PrintMore
attribute [local go_sem] max2_int min2_int max_two min_two max_three min_three max_four min_four   -- for this text's walks alone
set_option linter.unusedVariables false
set_option linter.unusedSimpArgs false

/-! ### fleet_Validate: function 11 -/
mutual
def fleet_Validate.j0 : Nat → List (S52) → Bool → List Int → List Int → Int → Int → Int → Int → List (S49) → Option (Int)
  | 0, _, _, _, _, _, _, _, _, _ => none
  | k + 1, x0, x27, x243000, x243001, x243002, x243003, x243004, x243005, x243006 => if x27 = true then (some 1) else (fleet_Validate.l0 k x0 x243000 (x243000.length : Int) 0 x243000 x243001 x243002 x243003 x243004 x243005 x243006)
def fleet_Validate.l0 : Nat → List (S52) → List Int → Int → Int → List Int → List Int → Int → Int → Int → Int → List (S49) → Option (Int)
  | 0, _, _, _, _, _, _, _, _, _, _, _ => none
  | k + 1, x0, x29, x30, x31, x243000, x243001, x243002, x243003, x243004, x243005, x243006 => if x31 < x30 then (if 0 ≤ x31 then (if x31 < (x29.length : Int) then (if 0 ≤ (rd x29 x31) then (if (rd x29 x31) < (x0.length : Int) then (if ((rd_T52 x0 (rd x29 x31)).f7) = 0 then (if x31 < (x243001.length : Int) then (fleet_Validate.j2 k x0 x29 x30 x31 ((rd x243001 x31) != (-1)) x243000 x243001 x243002 x243003 x243004 x243005 x243006) else (none)) else (fleet_Validate.j2 k x0 x29 x30 x31 false x243000 x243001 x243002 x243003 x243004 x243005 x243006)) else (none)) else (none)) else (none)) else (none)) else ((fleet_within.f k 0 100000 (([x243002, x243003] : List Int))).bind fun t251 => (if t251 = true then ((fleet_within.f k 0 1000 (([x243004] : List Int))).bind fun t255 => (if t255 = true then ((fleet_within.f k 0 1000000 (([x243005] : List Int))).bind fun t259 => (if t259 = true then ((cargo_Validate.f k x243006).bind fun t260 => (fleet_Validate.j3 k (t260 != 0))) else (fleet_Validate.j3 k true))) else (fleet_Validate.j3 k true))) else (fleet_Validate.j3 k true)))
def fleet_Validate.j2 : Nat → List (S52) → List Int → Int → Int → Bool → List Int → List Int → Int → Int → Int → Int → List (S49) → Option (Int)
  | 0, _, _, _, _, _, _, _, _, _, _, _, _ => none
  | k + 1, x0, x29, x30, x31, x49, x243000, x243001, x243002, x243003, x243004, x243005, x243006 => if x49 = true then (some 1) else (fleet_Validate.l0 k x0 x29 x30 (wrap64 (x31 + 1)) x243000 x243001 x243002 x243003 x243004 x243005 x243006)
def fleet_Validate.j3 : Nat → Bool → Option (Int)
  | 0, _ => none
  | k + 1, x77 => if x77 = true then (some 1) else (some 0)
end
def fleet_Validate.f (k : Nat) (l0 : List (S52)) (l1_0 : List Int) (l1_1 : List Int) (a1_2 : Int) (a1_3 : Int) (a1_4 : Int) (a1_5 : Int) (l1_6 : List (S49)) : Option (Int) := (fleet_joined.f k l0 l1_0).bind fun t243 => (if t243 = 0 then (if (l1_1.length : Int) = (l1_0.length : Int) then ((fleet_within.f k (-1) 15 l1_1).bind fun t244 => (fleet_Validate.j0 k l0 (!t244) l1_0 l1_1 a1_2 a1_3 a1_4 a1_5 l1_6)) else (fleet_Validate.j0 k l0 true l1_0 l1_1 a1_2 a1_3 a1_4 a1_5 l1_6)) else (some t243))
theorem fleet_Validate.mono_l : ∀ k, (∀ y0 y1 y2 y3 y4 y5 y6 y7 y8, LeO (fleet_Validate.j0 k y0 y1 y2 y3 y4 y5 y6 y7 y8) (fleet_Validate.j0 (k + 1) y0 y1 y2 y3 y4 y5 y6 y7 y8)) ∧ (∀ y0 y1 y2 y3 y4 y5 y6 y7 y8 y9 y10, LeO (fleet_Validate.l0 k y0 y1 y2 y3 y4 y5 y6 y7 y8 y9 y10) (fleet_Validate.l0 (k + 1) y0 y1 y2 y3 y4 y5 y6 y7 y8 y9 y10)) ∧ (∀ y0 y1 y2 y3 y4 y5 y6 y7 y8 y9 y10 y11, LeO (fleet_Validate.j2 k y0 y1 y2 y3 y4 y5 y6 y7 y8 y9 y10 y11) (fleet_Validate.j2 (k + 1) y0 y1 y2 y3 y4 y5 y6 y7 y8 y9 y10 y11)) ∧ (∀ y0, LeO (fleet_Validate.j3 k y0) (fleet_Validate.j3 (k + 1) y0))
  | 0 => ⟨fun _ _ _ _ _ _ _ _ _ r h => by simp [fleet_Validate.j0] at h, fun _ _ _ _ _ _ _ _ _ _ _ r h => by simp [fleet_Validate.l0] at h, fun _ _ _ _ _ _ _ _ _ _ _ _ r h => by simp [fleet_Validate.j2] at h, fun _ r h => by simp [fleet_Validate.j3] at h⟩
  | k + 1 => by
    obtain ⟨ih0, ih1, ih2, ih3⟩ := fleet_Validate.mono_l k
    refine ⟨?_, ?_, ?_, ?_⟩
    · intro y0 y1 y2 y3 y4 y5 y6 y7 y8
      unfold fleet_Validate.j0
      repeat' first
      | (with_reducible first | exact ih0 _ _ _ _ _ _ _ _ _ | exact ih1 _ _ _ _ _ _ _ _ _ _ _ | exact ih2 _ _ _ _ _ _ _ _ _ _ _ _ | exact ih3 _ | exact cargo_Validate.mono _ _ | exact fleet_joined.mono _ _ _ | exact fleet_within.mono _ _ _ _ | exact LeO.refl _ | exact LeO.none _ | refine LeO.ite ?_ ?_ | refine LeO.bind ?_ (fun _ => ?_))
      | exact ih0 _ _ _ _ _ _ _ _ _
      | exact ih1 _ _ _ _ _ _ _ _ _ _ _
      | exact ih2 _ _ _ _ _ _ _ _ _ _ _ _
      | exact ih3 _
      | exact cargo_Validate.mono _ _
      | exact fleet_joined.mono _ _ _
      | exact fleet_within.mono _ _ _ _
      | exact LeO.none _
      | refine LeO.ite ?_ ?_
      | refine LeO.bind ?_ (fun _ => ?_)
    · intro y0 y1 y2 y3 y4 y5 y6 y7 y8 y9 y10
      unfold fleet_Validate.l0
      repeat' first
      | (with_reducible first | exact ih0 _ _ _ _ _ _ _ _ _ | exact ih1 _ _ _ _ _ _ _ _ _ _ _ | exact ih2 _ _ _ _ _ _ _ _ _ _ _ _ | exact ih3 _ | exact cargo_Validate.mono _ _ | exact fleet_joined.mono _ _ _ | exact fleet_within.mono _ _ _ _ | exact LeO.refl _ | exact LeO.none _ | refine LeO.ite ?_ ?_ | refine LeO.bind ?_ (fun _ => ?_))
      | exact ih0 _ _ _ _ _ _ _ _ _
      | exact ih1 _ _ _ _ _ _ _ _ _ _ _
      | exact ih2 _ _ _ _ _ _ _ _ _ _ _ _
      | exact ih3 _
      | exact cargo_Validate.mono _ _
      | exact fleet_joined.mono _ _ _
      | exact fleet_within.mono _ _ _ _
      | exact LeO.none _
      | refine LeO.ite ?_ ?_
      | refine LeO.bind ?_ (fun _ => ?_)
    · intro y0 y1 y2 y3 y4 y5 y6 y7 y8 y9 y10 y11
      unfold fleet_Validate.j2
      repeat' first
      | (with_reducible first | exact ih0 _ _ _ _ _ _ _ _ _ | exact ih1 _ _ _ _ _ _ _ _ _ _ _ | exact ih2 _ _ _ _ _ _ _ _ _ _ _ _ | exact ih3 _ | exact cargo_Validate.mono _ _ | exact fleet_joined.mono _ _ _ | exact fleet_within.mono _ _ _ _ | exact LeO.refl _ | exact LeO.none _ | refine LeO.ite ?_ ?_ | refine LeO.bind ?_ (fun _ => ?_))
      | exact ih0 _ _ _ _ _ _ _ _ _
      | exact ih1 _ _ _ _ _ _ _ _ _ _ _
      | exact ih2 _ _ _ _ _ _ _ _ _ _ _ _
      | exact ih3 _
      | exact cargo_Validate.mono _ _
      | exact fleet_joined.mono _ _ _
      | exact fleet_within.mono _ _ _ _
      | exact LeO.none _
      | refine LeO.ite ?_ ?_
      | refine LeO.bind ?_ (fun _ => ?_)
    · intro y0
      unfold fleet_Validate.j3
      repeat' first
      | (with_reducible first | exact ih0 _ _ _ _ _ _ _ _ _ | exact ih1 _ _ _ _ _ _ _ _ _ _ _ | exact ih2 _ _ _ _ _ _ _ _ _ _ _ _ | exact ih3 _ | exact cargo_Validate.mono _ _ | exact fleet_joined.mono _ _ _ | exact fleet_within.mono _ _ _ _ | exact LeO.refl _ | exact LeO.none _ | refine LeO.ite ?_ ?_ | refine LeO.bind ?_ (fun _ => ?_))
      | exact ih0 _ _ _ _ _ _ _ _ _
      | exact ih1 _ _ _ _ _ _ _ _ _ _ _
      | exact ih2 _ _ _ _ _ _ _ _ _ _ _ _
      | exact ih3 _
      | exact cargo_Validate.mono _ _
      | exact fleet_joined.mono _ _ _
      | exact fleet_within.mono _ _ _ _
      | exact LeO.none _
      | refine LeO.ite ?_ ?_
      | refine LeO.bind ?_ (fun _ => ?_)
theorem fleet_Validate.mono : ∀ a0 a1 a2 a3 a4 a5 a6 a7 k, LeO (fleet_Validate.f k a0 a1 a2 a3 a4 a5 a6 a7) (fleet_Validate.f (k + 1) a0 a1 a2 a3 a4 a5 a6 a7) := by
  intro a0 a1 a2 a3 a4 a5 a6 a7 k
  obtain ⟨ih0, ih1, ih2, ih3⟩ := fleet_Validate.mono_l k
  unfold fleet_Validate.f
  repeat' first
      | (with_reducible first | exact ih0 _ _ _ _ _ _ _ _ _ | exact ih1 _ _ _ _ _ _ _ _ _ _ _ | exact ih2 _ _ _ _ _ _ _ _ _ _ _ _ | exact ih3 _ | exact cargo_Validate.mono _ _ | exact fleet_joined.mono _ _ _ | exact fleet_within.mono _ _ _ _ | exact LeO.refl _ | exact LeO.none _ | refine LeO.ite ?_ ?_ | refine LeO.bind ?_ (fun _ => ?_))
      | exact ih0 _ _ _ _ _ _ _ _ _
      | exact ih1 _ _ _ _ _ _ _ _ _ _ _
      | exact ih2 _ _ _ _ _ _ _ _ _ _ _ _
      | exact ih3 _
      | exact cargo_Validate.mono _ _
      | exact fleet_joined.mono _ _ _
      | exact fleet_within.mono _ _ _ _
      | exact LeO.none _
      | refine LeO.ite ?_ ?_
      | refine LeO.bind ?_ (fun _ => ?_)
set_option maxHeartbeats 8000000 in
set_option maxRecDepth 100000 in
theorem fleet_Validate.calls (k : Nat) (A0 : Option Addr) (c0 : Nat) (l0 : List (S52)) (A1_0 : Option Addr) (c1_0 : Nat) (l1_0 : List Int) (A1_1 : Option Addr) (c1_1 : Nat) (l1_1 : List Int) (a1_2 : Int) (a1_3 : Int) (a1_4 : Int) (a1_5 : Int) (A1_6 : Option Addr) (c1_6 : Nat) (l1_6 : List (S49)) (r : Int) (w : World) (hr0 : Kd.C k52 w A0 l0.length l0) (hc0 : l0.length ≤ c0) (hr1_0 : Kd.C (Kd.int .i64) w A1_0 l1_0.length l1_0) (hc1_0 : l1_0.length ≤ c1_0) (hr1_1 : Kd.C (Kd.int .i64) w A1_1 l1_1.length l1_1) (hc1_1 : l1_1.length ≤ c1_1) (hr1_6 : Kd.C k49 w A1_6 l1_6.length l1_6) (hc1_6 : l1_6.length ≤ c1_6) (h : fleet_Validate.f k l0 l1_0 l1_1 a1_2 a1_3 a1_4 a1_5 l1_6 = some r) :
    Calls Try.prog 11 #[.slice A0 l0.length c0, .agg #[.slice A1_0 l1_0.length c1_0, .slice A1_1 l1_1.length c1_1, .int .i64 a1_2, .int .i64 a1_3, .int .i64 a1_4, .int .i64 a1_5, .slice A1_6 l1_6.length c1_6]] w fun e w' => e = .returned (.int .i64 r) ∧ Below w.heap.size w w' := by
 have hu26 := Try.underlying26
 have HR0 := Aside0.mk hr0
 have HC0 := Aside0.mk hc0
 clear hr0 hc0
 have HR1_0 := Aside0.mk hr1_0
 have HC1_0 := Aside0.mk hc1_0
 clear hr1_0 hc1_0
 have HR1_1 := Aside0.mk hr1_1
 have HC1_1 := Aside0.mk hc1_1
 clear hr1_1 hc1_1
 have HR1_6 := Aside0.mk hr1_6
 have HC1_6 := Aside0.mk hc1_6
 clear hr1_6 hc1_6
 have HB := Aside0.mk (Below.refl w.heap.size w)
 have H : ((fleet_joined.f k l0 l1_0).bind fun t243 => (if t243 = 0 then (if (l1_1.length : Int) = (l1_0.length : Int) then ((fleet_within.f k (-1) 15 l1_1).bind fun t244 => (fleet_Validate.j0 k l0 (!t244) l1_0 l1_1 a1_2 a1_3 a1_4 a1_5 l1_6)) else (fleet_Validate.j0 k l0 true l1_0 l1_1 a1_2 a1_3 a1_4 a1_5 l1_6)) else (some t243))) = some r := h
 clear h
 replace H := Option.bind_eq_some_iff.mp H
 obtain ⟨t243, A30, H⟩ := H
 replace H : (if t243 = 0 then (if (l1_1.length : Int) = (l1_0.length : Int) then ((fleet_within.f k (-1) 15 l1_1).bind fun t244 => (fleet_Validate.j0 k l0 (!t244) l1_0 l1_1 a1_2 a1_3 a1_4 a1_5 l1_6)) else (fleet_Validate.j0 k l0 true l1_0 l1_1 a1_2 a1_3 a1_4 a1_5 l1_6)) else (some t243)) = some r := H
 have A3 := Aside0.mk A30
 clear A30
 by_cases c4 : t243 = 0
 ·rw [if_pos c4] at H
  have c4b0 : (t243 == 0) = true := beq_iff_eq.mpr c4
  have c4b1 : (t243 != 0) = false := bne_eq_false_iff_eq.mpr c4
  clear c4
  have HC5 := Aside0.mk H
  clear H
  go_enter Try.func11, Try.ntmps11
  go_upto_region 4 with (first | ((with_reducible refine gate_dst (N := 3) rfl ?_); (try (refine gate_guard (by rfl) ?_; dsimp only)); refine box_event ?hg (N := 3) ?hd (cs := #[.slice A1_0 l1_0.length c1_0, .slice A1_1 l1_1.length c1_1, .int .i64 a1_2, .int .i64 a1_3, .int .i64 a1_4, .int .i64 a1_5, .slice A1_6 l1_6.length c1_6]) (t := 26) ?hr ?_; (case hd => rfl); (case hg => rfl); (case hr => first | (go_simp; done) | (go_simp; rfl)); intro gb242 hg w6 hbox hb; have BK242 := Aside0.mk (hbox); have GW242 := Aside0.mk ((dS_ hg (dL_ HB) : w.heap.size ≤ gb242)); have GE242 := Aside0.mk ((dS_ hg (dL_ HB) : w.heap.size ≤ gb242)); replace HB := Aside0.mk (below_step (dL_ HB) hb); clear hb hbox hg; obtain ⟨hcz7_0, hcz7_1, hcz7_2, hcz7_3, hcz7_4, hcz7_5, hcz7_6, hfz7_0, hfz7_1, hfz7_2, hfz7_3, hfz7_4, hfz7_5, hfz7_6⟩ := cs7_ BK242.out) | ((with_reducible refine gate_callee (f := 28) rfl ?_); refine goesL_ (some 11) rfl rfl Try.func28 (by kernel_rfl) rfl #[.slice A0 l0.length c0, .slice A1_0 l1_0.length c1_0] rfl tA_ ?_; (with_reducible refine (fleet_joined.calls k _ _ l0 _ _ l1_0 t243 _ ?side1 ?side2 ?side3 ?side4 A3.out).mono ?_); (case side1 => exact dC_ HR0 HB); (case side2 => exact HC0.out); (case side3 => exact dC_ HR1_0 HB); (case side4 => exact HC1_0.out); rintro e w8 ⟨rfl, hb⟩; refine ⟨_, rfl, ?_⟩; replace BK242 := Aside0.mk (blk_below (g := gb242) (o := .cells #[.slice A1_0 l1_0.length c1_0, .slice A1_1 l1_1.length c1_1, .int .i64 a1_2, .int .i64 a1_3, .int .i64 a1_4, .int .i64 a1_5, .slice A1_6 l1_6.length c1_6] 26 (0, 0)) (dB_ BK242) hb); replace HB := Aside0.mk (below_step (dL1_ HB GE242) hb)))
  (try simp only [Act.put, List.setIfInBounds_toArray, List.set_cons_zero, List.set_cons_succ])
  go_cut [27] (fun v27 wc => ∃ (kq : Nat) (x27_4 : Bool), v27 = .bool x27_4 ∧ Aside0 (fleet_Validate.j0 kq l0 x27_4 l1_0 l1_1 a1_2 a1_3 a1_4 a1_5 l1_6 = some r) ∧ Aside0 (kq ≤ k) ∧ Aside0 (wc.heap[gb242]? = some (.cells #[(.slice A1_0 l1_0.length c1_0), (.slice A1_1 l1_1.length c1_1), .int .i64 a1_2, .int .i64 a1_3, .int .i64 a1_4, .int .i64 a1_5, (.slice A1_6 l1_6.length c1_6)] 26 (0, 0))) ∧ Aside0 (Below w.heap.size w wc))
  case first =>
   have H := HC5.out
   clear HC5
   by_cases c9 : (l1_1.length : Int) = (l1_0.length : Int)
   ·rw [if_pos c9] at H
    have c9b0 : ((l1_1.length : Int) == (l1_0.length : Int)) = true := beq_iff_eq.mpr c9
    have c9b1 : ((l1_1.length : Int) != (l1_0.length : Int)) = false := bne_eq_false_iff_eq.mpr c9
    have c9b2 : (l1_1.length == l1_0.length) = true := by first | simpa using c9 | (simp at c9 ⊢; omega)
    clear c9
    (first | rw [c9b0] | (simp only [i64_w, i32_w]; rw [c9b0]) | skip)
    replace H := Option.bind_eq_some_iff.mp H
    obtain ⟨t244, A100, H⟩ := H
    replace H : (fleet_Validate.j0 k l0 (!t244) l1_0 l1_1 a1_2 a1_3 a1_4 a1_5 l1_6) = some r := H
    have A10 := Aside0.mk A100
    clear A100
    have H' := Aside0.mk H
    clear H
    obtain ⟨hcz11_0, hcz11_1, hcz11_2, hcz11_3, hcz11_4, hcz11_5, hcz11_6, hfz11_0, hfz11_1, hfz11_2, hfz11_3, hfz11_4, hfz11_5, hfz11_6⟩ := cs7_ BK242.out
    go_wp2_with (first | (go_at_call 18; (with_reducible refine (fleet_within.calls k (-1) 15 _ _ l1_1 t244 _ ?side1 ?side2 A10.out).mono ?_); (case side1 => exact dC_ HR1_1 HB); (case side2 => exact HC1_1.out); rintro e w' ⟨rfl, ⟨nd, rfl⟩⟩))
    go_meet
    case rel => exact ⟨_, (!t244), tS_, H', ⟨by first | omega | exact Nat.le_refl _⟩, ⟨dB_ BK242⟩, ⟨dL1_ HB GE242⟩⟩
   ·rw [if_neg c9] at H
    have c9b0 : ((l1_1.length : Int) == (l1_0.length : Int)) = false := beq_eq_false_iff_ne.mpr c9
    have c9b1 : ((l1_1.length : Int) != (l1_0.length : Int)) = true := bne_iff_ne.mpr c9
    have c9b2 : (l1_1.length == l1_0.length) = false := by first | simpa using c9 | (simp at c9 ⊢; omega)
    (first | rw [c9b0] | (simp only [i64_w, i32_w]; rw [c9b0]) | skip)
    have H' := Aside0.mk H
    clear H
    obtain ⟨hcz12_0, hcz12_1, hcz12_2, hcz12_3, hcz12_4, hcz12_5, hcz12_6, hfz12_0, hfz12_1, hfz12_2, hfz12_3, hfz12_4, hfz12_5, hfz12_6⟩ := cs7_ BK242.out
    go_wp2
    go_meet
    case rel => exact ⟨_, (true), tS_, H', ⟨by first | omega | exact Nat.le_refl _⟩, ⟨dB_ BK242⟩, ⟨dL1_ HB GE242⟩⟩
  case rest =>
   clear HC5
   try clear c4
   try clear c4b0
   try clear c4b1
   try clear c9
   try clear hcz7_0
   try clear hcz7_1
   try clear hcz7_2
   try clear hcz7_3
   try clear hcz7_4
   try clear hcz7_5
   try clear hcz7_6
   try clear hfz7_0
   try clear hfz7_1
   try clear hfz7_2
   try clear hfz7_3
   try clear hfz7_4
   try clear hfz7_5
   try clear hfz7_6
   obtain ⟨kq, x27_4, rfl, HA, HJ4, BK242, HB⟩ := hcut
   cases kq with
   | zero => exact absurd HA.out (by simp [fleet_Validate.j0])
   | succ kj4 =>
    have H := HA.out
    clear HA
    simp only [fleet_Validate.j0] at H
    by_cases c13 : x27_4 = true
    ·subst c13
     have H1 : (some 1) = some r := by rw [if_pos rfl] at H; exact H
     clear H
     have H := H1
     clear H1
     obtain rfl := Option.some.inj H
     go_wp2
     go_ret
     exact ⟨tE_, dL1_ HB GE242⟩
    ·replace c13 := Bool.eq_false_iff.mpr c13
     subst c13
     have H1 : (fleet_Validate.l0 kj4 l0 l1_0 (l1_0.length : Int) 0 l1_0 l1_1 a1_2 a1_3 a1_4 a1_5 l1_6) = some r := by rw [if_neg (show ¬ (false = true) by decide)] at H; exact H
     clear H
     have H := H1
     clear H1
     have H' := Aside0.mk H
     clear H
     obtain ⟨hcz14_0, hcz14_1, hcz14_2, hcz14_3, hcz14_4, hcz14_5, hcz14_6, hfz14_0, hfz14_1, hfz14_2, hfz14_3, hfz14_4, hfz14_5, hfz14_6⟩ := cs7_ BK242.out
     go_wp2
     go_loopg [31] kj4 (fun kq v31 w' => ∃ (x31_2 : Int), v31 = .int .i64 x31_2 ∧ Aside0 (fleet_Validate.l0 kq l0 l1_0 (l1_0.length : Int) x31_2 l1_0 l1_1 a1_2 a1_3 a1_4 a1_5 l1_6 = some r) ∧ Aside0 (kq ≤ kj4) ∧ Aside0 (w'.heap[gb242]? = some (.cells #[(.slice A1_0 l1_0.length c1_0), (.slice A1_1 l1_1.length c1_1), .int .i64 a1_2, .int .i64 a1_3, .int .i64 a1_4, .int .i64 a1_5, (.slice A1_6 l1_6.length c1_6)] 26 (0, 0))) ∧ Aside0 (Below w.heap.size w w'))
     case atStart => exact ⟨(0), tS_, H', ⟨Nat.le_refl _⟩, ⟨dB_ BK242⟩, ⟨dL1_ HB GE242⟩⟩
     case round =>
      clear H'
      try clear c4
      try clear c4b0
      try clear c4b1
      try clear c9
      try clear c13
      try clear hcz14_0
      try clear hcz14_1
      try clear hcz14_2
      try clear hcz14_3
      try clear hcz14_4
      try clear hcz14_5
      try clear hcz14_6
      try clear hcz7_0
      try clear hcz7_1
      try clear hcz7_2
      try clear hcz7_3
      try clear hcz7_4
      try clear hcz7_5
      try clear hcz7_6
      try clear hfz14_0
      try clear hfz14_1
      try clear hfz14_2
      try clear hfz14_3
      try clear hfz14_4
      try clear hfz14_5
      try clear hfz14_6
      try clear hfz7_0
      try clear hfz7_1
      try clear hfz7_2
      try clear hfz7_3
      try clear hfz7_4
      try clear hfz7_5
      try clear hfz7_6
      obtain ⟨x31_2, rfl, HA, HK2, BK242, HB⟩ := hrel
      cases gk with
      | zero => exact absurd HA.out (by simp [fleet_Validate.l0])
      | succ k2 =>
       have H := HA.out
       clear HA
       simp only [fleet_Validate.l0] at H
       by_cases c15 : x31_2 < (l1_0.length : Int)
       ·rw [if_pos c15] at H
        have c15b0 : decide (x31_2 < (l1_0.length : Int)) = true := decide_eq_true c15
        clear c15
        by_cases c16 : 0 ≤ x31_2
        ·rw [if_pos c16] at H
         have c16b0 : decide (0 ≤ x31_2) = true := decide_eq_true c16
         clear c16
         by_cases c17 : x31_2 < (l1_0.length : Int)
         ·rw [if_pos c17] at H
          have c17b0 : decide (x31_2 < (l1_0.length : Int)) = true := decide_eq_true c17
          clear c17
          have HC18 := Aside0.mk H
          clear H
          have p245 : 0 ≤ (x31_2 : Int) := of_decide_eq_true tW_
          have q245 : x31_2 < (l1_0.length : Int) := of_decide_eq_true tW_
          obtain ⟨ad245, e245, hx245_0⟩ := Kd.at_int HR1_0.out x31_2 p245 q245
          cases e245
          replace hx245_0 := bc_ HB hx245_0
          replace p245 := eq_true p245
          replace q245 := eq_true q245
          go_upto_region 9 with (fail)
          go_cut [49] (fun v49 wc => ∃ (kq : Nat) (x49_17 : Bool), v49 = .bool x49_17 ∧ Aside0 (fleet_Validate.j2 kq l0 l1_0 (l1_0.length : Int) x31_2 x49_17 l1_0 l1_1 a1_2 a1_3 a1_4 a1_5 l1_6 = some r) ∧ Aside0 (kq ≤ k2) ∧ Aside0 (wc.heap[gb242]? = some (.cells #[(.slice (some ad245) l1_0.length c1_0), (.slice A1_1 l1_1.length c1_1), .int .i64 a1_2, .int .i64 a1_3, .int .i64 a1_4, .int .i64 a1_5, (.slice A1_6 l1_6.length c1_6)] 26 (0, 0))) ∧ Aside0 (Below w.heap.size w wc))
          case first =>
           have H := HC18.out
           clear HC18
           by_cases c19 : 0 ≤ (rd l1_0 x31_2)
           ·rw [if_pos c19] at H
            have c19b0 : decide (0 ≤ (rd l1_0 x31_2)) = true := decide_eq_true c19
            clear c19
            (first | rw [c19b0] | (simp only [i64_w, i32_w]; rw [c19b0]) | skip)
            by_cases c20 : (rd l1_0 x31_2) < (l0.length : Int)
            ·rw [if_pos c20] at H
             have c20b0 : decide ((rd l1_0 x31_2) < (l0.length : Int)) = true := decide_eq_true c20
             clear c20
             by_cases c21 : ((rd_T52 l0 (rd l1_0 x31_2)).f7) = 0
             ·rw [if_pos c21] at H
              have c21b0 : (((rd_T52 l0 (rd l1_0 x31_2)).f7) == 0) = true := beq_iff_eq.mpr c21
              have c21b1 : (((rd_T52 l0 (rd l1_0 x31_2)).f7) != 0) = false := bne_eq_false_iff_eq.mpr c21
              clear c21
              by_cases c22 : x31_2 < (l1_1.length : Int)
              ·rw [if_pos c22] at H
               have c22b0 : decide (x31_2 < (l1_1.length : Int)) = true := decide_eq_true c22
               clear c22
               have H' := Aside0.mk H
               clear H
               have p246 : 0 ≤ ((rd l1_0 x31_2) : Int) := of_decide_eq_true tW_
               have q246 : (rd l1_0 x31_2) < (l0.length : Int) := of_decide_eq_true tW_
               obtain ⟨ad246, e246, hx246_0, hx246_1, hx246_2, hx246_3, hx246_4, hx246_5, hx246_6, hx246_7, hx246_8, hx246_9, hx246_10, hx246_11, hx246_12, hx246_13⟩ := at_T52 HR0.out (rd l1_0 x31_2) p246 q246
               cases e246
               replace hx246_0 := bc_ HB hx246_0
               replace hx246_1 := bc_ HB hx246_1
               replace hx246_2 := bc_ HB hx246_2
               replace hx246_3 := bc_ HB hx246_3
               replace hx246_4 := bc_ HB hx246_4
               replace hx246_5 := bc_ HB hx246_5
               replace hx246_6 := bc_ HB hx246_6
               replace hx246_7 := bc_ HB hx246_7
               replace hx246_8 := bc_ HB hx246_8
               replace hx246_9 := bc_ HB hx246_9
               replace hx246_10 := bc_ HB hx246_10
               replace hx246_11 := bc_ HB hx246_11
               replace hx246_12 := bc_ HB hx246_12
               replace hx246_13 := bc_ HB hx246_13
               replace p246 := eq_true p246
               replace q246 := eq_true q246
               obtain ⟨hcz23_0, hcz23_1, hcz23_2, hcz23_3, hcz23_4, hcz23_5, hcz23_6, hfz23_0, hfz23_1, hfz23_2, hfz23_3, hfz23_4, hfz23_5, hfz23_6⟩ := cs7_ BK242.out
               have p247 : 0 ≤ (x31_2 : Int) := of_decide_eq_true tW_
               have q247 : x31_2 < (l1_1.length : Int) := of_decide_eq_true tW_
               obtain ⟨ad247, e247, hx247_0⟩ := Kd.at_int HR1_1.out x31_2 p247 q247
               cases e247
               replace hx247_0 := bc_ HB hx247_0
               replace p247 := eq_true p247
               replace q247 := eq_true q247
               go_wp2
               go_meet
               case rel => exact ⟨_, (((rd l1_1 x31_2) != (-1))), tS_, H', ⟨by have := HJ4.out; have := HK2.out; first | omega | exact Nat.le_refl _⟩, ⟨dB_ BK242⟩, ⟨dL1_ HB GE242⟩⟩
              ·rw [if_neg c22] at H
               exact absurd H (by simp)
             ·rw [if_neg c21] at H
              have c21b0 : (((rd_T52 l0 (rd l1_0 x31_2)).f7) == 0) = false := beq_eq_false_iff_ne.mpr c21
              have c21b1 : (((rd_T52 l0 (rd l1_0 x31_2)).f7) != 0) = true := bne_iff_ne.mpr c21
              have H' := Aside0.mk H
              clear H
              have p246 : 0 ≤ ((rd l1_0 x31_2) : Int) := of_decide_eq_true tW_
              have q246 : (rd l1_0 x31_2) < (l0.length : Int) := of_decide_eq_true tW_
              obtain ⟨ad246, e246, hx246_0, hx246_1, hx246_2, hx246_3, hx246_4, hx246_5, hx246_6, hx246_7, hx246_8, hx246_9, hx246_10, hx246_11, hx246_12, hx246_13⟩ := at_T52 HR0.out (rd l1_0 x31_2) p246 q246
              cases e246
              replace hx246_0 := bc_ HB hx246_0
              replace hx246_1 := bc_ HB hx246_1
              replace hx246_2 := bc_ HB hx246_2
              replace hx246_3 := bc_ HB hx246_3
              replace hx246_4 := bc_ HB hx246_4
              replace hx246_5 := bc_ HB hx246_5
              replace hx246_6 := bc_ HB hx246_6
              replace hx246_7 := bc_ HB hx246_7
              replace hx246_8 := bc_ HB hx246_8
              replace hx246_9 := bc_ HB hx246_9
              replace hx246_10 := bc_ HB hx246_10
              replace hx246_11 := bc_ HB hx246_11
              replace hx246_12 := bc_ HB hx246_12
              replace hx246_13 := bc_ HB hx246_13
              replace p246 := eq_true p246
              replace q246 := eq_true q246
              go_wp2
              go_meet
              case rel => exact ⟨_, (false), tS_, H', ⟨by have := HJ4.out; have := HK2.out; first | omega | exact Nat.le_refl _⟩, ⟨dB_ BK242⟩, ⟨dL1_ HB GE242⟩⟩
            ·rw [if_neg c20] at H
             exact absurd H (by simp)
           ·rw [if_neg c19] at H
            exact absurd H (by simp)
          case rest =>
           clear HC18
           try clear c4
           try clear c4b0
           try clear c4b1
           try clear c9
           try clear c13
           try clear c15
           try clear c15b0
           try clear c16
           try clear c16b0
           try clear c17
           try clear c17b0
           try clear c19
           try clear c20
           try clear c21
           try clear c22
           try clear hcz14_0
           try clear hcz14_1
           try clear hcz14_2
           try clear hcz14_3
           try clear hcz14_4
           try clear hcz14_5
           try clear hcz14_6
           try clear hcz7_0
           try clear hcz7_1
           try clear hcz7_2
           try clear hcz7_3
           try clear hcz7_4
           try clear hcz7_5
           try clear hcz7_6
           try clear hfz14_0
           try clear hfz14_1
           try clear hfz14_2
           try clear hfz14_3
           try clear hfz14_4
           try clear hfz14_5
           try clear hfz14_6
           try clear hfz7_0
           try clear hfz7_1
           try clear hfz7_2
           try clear hfz7_3
           try clear hfz7_4
           try clear hfz7_5
           try clear hfz7_6
           try clear hx245_0
           try clear p245
           try clear q245
           obtain ⟨kq, x49_17, rfl, HA, HJ17, BK242, HB⟩ := hcut
           cases kq with
           | zero => exact absurd HA.out (by simp [fleet_Validate.j2])
           | succ kj17 =>
            have H := HA.out
            clear HA
            simp only [fleet_Validate.j2] at H
            by_cases c24 : x49_17 = true
            ·subst c24
             have H1 : (some 1) = some r := by rw [if_pos rfl] at H; exact H
             clear H
             have H := H1
             clear H1
             obtain rfl := Option.some.inj H
             go_wp2
             go_ret
             exact ⟨tE_, dL1_ HB GE242⟩
            ·replace c24 := Bool.eq_false_iff.mpr c24
             subst c24
             have H1 : (fleet_Validate.l0 kj17 l0 l1_0 (l1_0.length : Int) (wrap64 (x31_2 + 1)) l1_0 l1_1 a1_2 a1_3 a1_4 a1_5 l1_6) = some r := by rw [if_neg (show ¬ (false = true) by decide)] at H; exact H
             clear H
             have H := H1
             clear H1
             have H' := Aside0.mk H
             clear H
             go_wp2
             go_roundg kj17
             case measure => have := HJ4.out; have := HK2.out; have := HJ17.out; omega
             case rel => exact ⟨(wrap64 (x31_2 + 1)), tS_, H', ⟨by have := HJ4.out; have := HK2.out; have := HJ17.out; omega⟩, ⟨dB_ BK242⟩, ⟨dL1_ HB GE242⟩⟩
         ·rw [if_neg c17] at H
          exact absurd H (by simp)
        ·rw [if_neg c16] at H
         exact absurd H (by simp)
       ·rw [if_neg c15] at H
        have c15b0 : decide (x31_2 < (l1_0.length : Int)) = false := decide_eq_false c15
        clear c15
        have HC25 := Aside0.mk H
        clear H
        go_upto_region 12 with (fail)
        go_cut [77] (fun v77 wc => ∃ (kq : Nat) (x77_24 : Bool), v77 = .bool x77_24 ∧ Aside0 (fleet_Validate.j3 kq x77_24 = some r) ∧ Aside0 (kq ≤ k2) ∧ Aside0 (wc.heap[gb242]? = some (.cells #[(.slice A1_0 l1_0.length c1_0), (.slice A1_1 l1_1.length c1_1), .int .i64 a1_2, .int .i64 a1_3, .int .i64 a1_4, .int .i64 a1_5, (.slice A1_6 l1_6.length c1_6)] 26 (0, 0))) ∧ Aside0 (Below w.heap.size w wc))
        case first =>
         have H := HC25.out
         clear HC25
         obtain ⟨y248, hy248⟩ : ∃ y_ : List Int, y_ = (([a1_2, a1_3] : List Int)) := ⟨_, rfl⟩
         replace H : ((fleet_within.f k2 0 100000 y248).bind fun t251 => (if t251 = true then ((fleet_within.f k2 0 1000 (([a1_4] : List Int))).bind fun t255 => (if t255 = true then ((fleet_within.f k2 0 1000000 (([a1_5] : List Int))).bind fun t259 => (if t259 = true then ((cargo_Validate.f k2 l1_6).bind fun t260 => (fleet_Validate.j3 k2 (t260 != 0))) else (fleet_Validate.j3 k2 true))) else (fleet_Validate.j3 k2 true))) else (fleet_Validate.j3 k2 true))) = some r := by first | (rw [hy248]; with_reducible exact H) | (have H2_ := (Option.bind_some _ _).symm.trans H; rw [hy248]; with_reducible exact H2_) | (have H2_ := (Option.bind_some _ _).symm.trans H; with_reducible exact H2_) | with_reducible exact H | (rw [hy248]; exact H) | exact H
         have Ny248 := Aside0.mk hy248
         clear hy248
         replace H := Option.bind_eq_some_iff.mp H
         obtain ⟨t251, A260, H⟩ := H
         replace H : (if t251 = true then ((fleet_within.f k2 0 1000 (([a1_4] : List Int))).bind fun t255 => (if t255 = true then ((fleet_within.f k2 0 1000000 (([a1_5] : List Int))).bind fun t259 => (if t259 = true then ((cargo_Validate.f k2 l1_6).bind fun t260 => (fleet_Validate.j3 k2 (t260 != 0))) else (fleet_Validate.j3 k2 true))) else (fleet_Validate.j3 k2 true))) else (fleet_Validate.j3 k2 true)) = some r := H
         have A26 := Aside0.mk A260
         clear A260
         by_cases c27 : t251 = true
         ·subst c27
          have H1 : ((fleet_within.f k2 0 1000 (([a1_4] : List Int))).bind fun t255 => (if t255 = true then ((fleet_within.f k2 0 1000000 (([a1_5] : List Int))).bind fun t259 => (if t259 = true then ((cargo_Validate.f k2 l1_6).bind fun t260 => (fleet_Validate.j3 k2 (t260 != 0))) else (fleet_Validate.j3 k2 true))) else (fleet_Validate.j3 k2 true))) = some r := by rw [if_pos rfl] at H; exact H
          clear H
          have H := H1
          clear H1
          obtain ⟨y252, hy252⟩ : ∃ y_ : List Int, y_ = (([a1_4] : List Int)) := ⟨_, rfl⟩
          replace H : ((fleet_within.f k2 0 1000 y252).bind fun t255 => (if t255 = true then ((fleet_within.f k2 0 1000000 (([a1_5] : List Int))).bind fun t259 => (if t259 = true then ((cargo_Validate.f k2 l1_6).bind fun t260 => (fleet_Validate.j3 k2 (t260 != 0))) else (fleet_Validate.j3 k2 true))) else (fleet_Validate.j3 k2 true))) = some r := by first | (rw [hy252]; with_reducible exact H) | (have H2_ := (Option.bind_some _ _).symm.trans H; rw [hy252]; with_reducible exact H2_) | (have H2_ := (Option.bind_some _ _).symm.trans H; with_reducible exact H2_) | with_reducible exact H | (rw [hy252]; exact H) | exact H
          have Ny252 := Aside0.mk hy252
          clear hy252
          replace H := Option.bind_eq_some_iff.mp H
          obtain ⟨t255, A280, H⟩ := H
          replace H : (if t255 = true then ((fleet_within.f k2 0 1000000 (([a1_5] : List Int))).bind fun t259 => (if t259 = true then ((cargo_Validate.f k2 l1_6).bind fun t260 => (fleet_Validate.j3 k2 (t260 != 0))) else (fleet_Validate.j3 k2 true))) else (fleet_Validate.j3 k2 true)) = some r := H
          have A28 := Aside0.mk A280
          clear A280
          by_cases c29 : t255 = true
          ·subst c29
           have H1 : ((fleet_within.f k2 0 1000000 (([a1_5] : List Int))).bind fun t259 => (if t259 = true then ((cargo_Validate.f k2 l1_6).bind fun t260 => (fleet_Validate.j3 k2 (t260 != 0))) else (fleet_Validate.j3 k2 true))) = some r := by rw [if_pos rfl] at H; exact H
           clear H
           have H := H1
           clear H1
           obtain ⟨y256, hy256⟩ : ∃ y_ : List Int, y_ = (([a1_5] : List Int)) := ⟨_, rfl⟩
           replace H : ((fleet_within.f k2 0 1000000 y256).bind fun t259 => (if t259 = true then ((cargo_Validate.f k2 l1_6).bind fun t260 => (fleet_Validate.j3 k2 (t260 != 0))) else (fleet_Validate.j3 k2 true))) = some r := by first | (rw [hy256]; with_reducible exact H) | (have H2_ := (Option.bind_some _ _).symm.trans H; rw [hy256]; with_reducible exact H2_) | (have H2_ := (Option.bind_some _ _).symm.trans H; with_reducible exact H2_) | with_reducible exact H | (rw [hy256]; exact H) | exact H
           have Ny256 := Aside0.mk hy256
           clear hy256
           replace H := Option.bind_eq_some_iff.mp H
           obtain ⟨t259, A300, H⟩ := H
           replace H : (if t259 = true then ((cargo_Validate.f k2 l1_6).bind fun t260 => (fleet_Validate.j3 k2 (t260 != 0))) else (fleet_Validate.j3 k2 true)) = some r := H
           have A30 := Aside0.mk A300
           clear A300
           by_cases c31 : t259 = true
           ·subst c31
            have H1 : ((cargo_Validate.f k2 l1_6).bind fun t260 => (fleet_Validate.j3 k2 (t260 != 0))) = some r := by rw [if_pos rfl] at H; exact H
            clear H
            have H := H1
            clear H1
            replace H := Option.bind_eq_some_iff.mp H
            obtain ⟨t260, A320, H⟩ := H
            replace H : (fleet_Validate.j3 k2 (t260 != 0)) = some r := H
            have A32 := Aside0.mk A320
            clear A320
            have H' := Aside0.mk H
            clear H
            obtain ⟨hcz33_0, hcz33_1, hcz33_2, hcz33_3, hcz33_4, hcz33_5, hcz33_6, hfz33_0, hfz33_1, hfz33_2, hfz33_3, hfz33_4, hfz33_5, hfz33_6⟩ := cs7_ BK242.out
            go_wp2_with (first | ((with_reducible refine gate_dst (N := 55) rfl ?_); (try (refine gate_guard (by rfl) ?_; dsimp only)); refine Kd.R_lit (Kd.int .i64) _ 3 ?hg (N := 55) ?hd (xs := ([a1_2, a1_3] : List Int)) (inner := [.int .i64 a1_2, .int .i64 a1_3]) (ok := fun _ => True) (okp := fun _ => True) ?hr ?hp (fun _ hk => hk) trivial (Below.refl _ _) (Nat.le_refl _) (by simp) ?_; (case hd => rfl); (case hg => rfl); (case hr => first | (go_simp; done) | (go_simp; rfl)); (case hp => exact (Reps.one (show Kd.M (Kd.int .i64) _ _ _ a1_2 [.int .i64 a1_2] from rfl) (Reps.one (show Kd.M (Kd.int .i64) _ _ _ a1_3 [.int .i64 a1_3] from rfl) (Reps.none _ _)))); intro v249 w34 ho35 hb hg_ hnew_; clear hg_ hnew_; (first | rw [← Ny248.out] at ho35 | (simp only [Int.reduceToNat] at ho35; rw [← Ny248.out] at ho35)); have HO250 := Aside0.mk (Kd.R_lower ho35 (below_size (dL1_ HB GE242))); replace BK242 := Aside0.mk (blk_below (g := gb242) (o := .cells #[.slice A1_0 l1_0.length c1_0, .slice A1_1 l1_1.length c1_1, .int .i64 a1_2, .int .i64 a1_3, .int .i64 a1_4, .int .i64 a1_5, .slice A1_6 l1_6.length c1_6] 26 (0, 0)) (dB_ BK242) hb); replace HB := Aside0.mk (below_step (dL1_ HB GE242) hb); clear hb ho35; obtain ⟨Ao36, co36, eo36⟩ := Kd.R_slice HO250.out; subst eo36) | ((with_reducible refine gate_callee (f := 18) rfl ?_); refine goesL_ (some 56) rfl rfl Try.func18 (by kernel_rfl) rfl #[.int .i64 0, .int .i64 100000, .slice Ao36 y248.length co36] rfl tA_ ?_; (with_reducible refine (fleet_within.calls k2 0 100000 _ _ y248 true _ ?side1 ?side2 A26.out).mono ?_); (case side1 => repeat (first | exact (Kd.R_reads' HO250.out).2.2 | (with_reducible refine Kd.C_alloc ?_ _) | (with_reducible refine Kd.C_drewN ?_ _) | (with_reducible refine Kd.C_drew ?_))); (case side2 => exact (Kd.R_reads' HO250.out).2.1); rintro e w' ⟨rfl, ⟨nd, rfl⟩⟩; refine ⟨_, rfl, ?_⟩; obtain ⟨hcz37_0, hcz37_1, hcz37_2, hcz37_3, hcz37_4, hcz37_5, hcz37_6, hfz37_0, hfz37_1, hfz37_2, hfz37_3, hfz37_4, hfz37_5, hfz37_6⟩ := cs7_ BK242.out) | ((with_reducible refine gate_dst (N := 61) rfl ?_); (try (refine gate_guard (by rfl) ?_; dsimp only)); refine Kd.R_lit (Kd.int .i64) _ 3 ?hg (N := 61) ?hd (xs := ([a1_4] : List Int)) (inner := [.int .i64 a1_4]) (ok := fun _ => True) (okp := fun _ => True) ?hr ?hp (fun _ hk => hk) trivial (Below.refl _ _) (Nat.le_refl _) (by simp) ?_; (case hd => rfl); (case hg => rfl); (case hr => first | (go_simp; done) | (go_simp; rfl)); (case hp => exact (Reps.one (show Kd.M (Kd.int .i64) _ _ _ a1_4 [.int .i64 a1_4] from rfl) (Reps.none _ _))); intro v253 w38 ho39 hb hg_ hnew_; clear hg_ hnew_; (first | rw [← Ny252.out] at ho39 | (simp only [Int.reduceToNat] at ho39; rw [← Ny252.out] at ho39)); have HO254 := Aside0.mk (Kd.R_lower (Kd.R_new' ho39 (Kd.R_lt (dR_ HO250))) (below_size (dL1_ HB GE242))); replace HO250 := Aside0.mk (Kd.R_elder' (dR_ HO250) (Kd.R_base ho39) hb); replace BK242 := Aside0.mk (blk_below (g := gb242) (o := .cells #[.slice A1_0 l1_0.length c1_0, .slice A1_1 l1_1.length c1_1, .int .i64 a1_2, .int .i64 a1_3, .int .i64 a1_4, .int .i64 a1_5, .slice A1_6 l1_6.length c1_6] 26 (0, 0)) (dB_ BK242) hb); replace HB := Aside0.mk (below_step (dL1_ HB GE242) hb); clear hb ho39; obtain ⟨Ao40, co40, eo40⟩ := Kd.R_slice HO254.out; subst eo40) | (go_at_call 18; (with_reducible refine (fleet_within.calls k2 0 1000 _ _ y252 true _ ?side1 ?side2 A28.out).mono ?_); (case side1 => repeat (first | exact (Kd.R_reads' HO254.out).2.2 | (with_reducible refine Kd.C_alloc ?_ _) | (with_reducible refine Kd.C_drewN ?_ _) | (with_reducible refine Kd.C_drew ?_))); (case side2 => exact (Kd.R_reads' HO254.out).2.1); rintro e w' ⟨rfl, ⟨nd, rfl⟩⟩; obtain ⟨hcz41_0, hcz41_1, hcz41_2, hcz41_3, hcz41_4, hcz41_5, hcz41_6, hfz41_0, hfz41_1, hfz41_2, hfz41_3, hfz41_4, hfz41_5, hfz41_6⟩ := cs7_ BK242.out) | ((with_reducible refine gate_dst (N := 68) rfl ?_); (try (refine gate_guard (by rfl) ?_; dsimp only)); refine Kd.R_lit (Kd.int .i64) _ 3 ?hg (N := 68) ?hd (xs := ([a1_5] : List Int)) (inner := [.int .i64 a1_5]) (ok := fun _ => True) (okp := fun _ => True) ?hr ?hp (fun _ hk => hk) trivial (Below.refl _ _) (Nat.le_refl _) (by simp) ?_; (case hd => rfl); (case hg => rfl); (case hr => first | (go_simp; done) | (go_simp; rfl)); (case hp => exact (Reps.one (show Kd.M (Kd.int .i64) _ _ _ a1_5 [.int .i64 a1_5] from rfl) (Reps.none _ _))); intro v257 w42 ho43 hb hg_ hnew_; clear hg_ hnew_; (first | rw [← Ny256.out] at ho43 | (simp only [Int.reduceToNat] at ho43; rw [← Ny256.out] at ho43)); have HO258 := Aside0.mk (Kd.R_lower (Kd.R_new' (Kd.R_new' ho43 (Kd.R_lt (dR_ HO250))) (Kd.R_lt (dR_ HO254))) (below_size (dL1_ HB GE242))); replace HO250 := Aside0.mk (Kd.R_elder' (dR_ HO250) (Kd.R_base ho43) hb); replace HO254 := Aside0.mk (Kd.R_elder' (dR_ HO254) (Kd.R_base ho43) hb); replace BK242 := Aside0.mk (blk_below (g := gb242) (o := .cells #[.slice A1_0 l1_0.length c1_0, .slice A1_1 l1_1.length c1_1, .int .i64 a1_2, .int .i64 a1_3, .int .i64 a1_4, .int .i64 a1_5, .slice A1_6 l1_6.length c1_6] 26 (0, 0)) (dB_ BK242) hb); replace HB := Aside0.mk (below_step (dL1_ HB GE242) hb); clear hb ho43; obtain ⟨Ao44, co44, eo44⟩ := Kd.R_slice HO258.out; subst eo44) | (go_at_call 18; (with_reducible refine (fleet_within.calls k2 0 1000000 _ _ y256 true _ ?side1 ?side2 A30.out).mono ?_); (case side1 => repeat (first | exact (Kd.R_reads' HO258.out).2.2 | (with_reducible refine Kd.C_alloc ?_ _) | (with_reducible refine Kd.C_drewN ?_ _) | (with_reducible refine Kd.C_drew ?_))); (case side2 => exact (Kd.R_reads' HO258.out).2.1); rintro e w' ⟨rfl, ⟨nd, rfl⟩⟩; obtain ⟨hcz45_0, hcz45_1, hcz45_2, hcz45_3, hcz45_4, hcz45_5, hcz45_6, hfz45_0, hfz45_1, hfz45_2, hfz45_3, hfz45_4, hfz45_5, hfz45_6⟩ := cs7_ BK242.out) | (go_at_call 29; (with_reducible refine (cargo_Validate.calls k2 _ _ l1_6 t260 _ ?side1 ?side2 A32.out).mono ?_); (case side1 => repeat (first | exact (Kd.C_below HR1_6.out (dL1_ HB GE242)) | (with_reducible refine Kd.C_alloc ?_ _) | (with_reducible refine Kd.C_drewN ?_ _) | (with_reducible refine Kd.C_drew ?_))); (case side2 => exact HC1_6.out); rintro e w46 ⟨rfl, hb⟩; replace HO250 := Aside0.mk (Kd.R_below (dR_ HO250) hb); replace HO254 := Aside0.mk (Kd.R_below (dR_ HO254) hb); replace HO258 := Aside0.mk (Kd.R_below (dR_ HO258) hb); replace BK242 := Aside0.mk (blk_below (g := gb242) (o := .cells #[.slice A1_0 l1_0.length c1_0, .slice A1_1 l1_1.length c1_1, .int .i64 a1_2, .int .i64 a1_3, .int .i64 a1_4, .int .i64 a1_5, .slice A1_6 l1_6.length c1_6] 26 (0, 0)) (dB_ BK242) hb); replace HB := Aside0.mk (below_step (dL1_ HB GE242) hb)))
            go_meet
            case rel => exact ⟨_, ((t260 != 0)), tS_, H', ⟨by have := HJ4.out; have := HK2.out; first | omega | exact Nat.le_refl _⟩, ⟨dB_ BK242⟩, ⟨dL1_ HB GE242⟩⟩
           ·replace c31 := Bool.eq_false_iff.mpr c31
            subst c31
            have H1 : (fleet_Validate.j3 k2 true) = some r := by rw [if_neg (show ¬ (false = true) by decide)] at H; exact H
            clear H
            have H := H1
            clear H1
            have H' := Aside0.mk H
            clear H
            obtain ⟨hcz47_0, hcz47_1, hcz47_2, hcz47_3, hcz47_4, hcz47_5, hcz47_6, hfz47_0, hfz47_1, hfz47_2, hfz47_3, hfz47_4, hfz47_5, hfz47_6⟩ := cs7_ BK242.out
            go_wp2_with (first | ((with_reducible refine gate_dst (N := 55) rfl ?_); (try (refine gate_guard (by rfl) ?_; dsimp only)); refine Kd.R_lit (Kd.int .i64) _ 3 ?hg (N := 55) ?hd (xs := ([a1_2, a1_3] : List Int)) (inner := [.int .i64 a1_2, .int .i64 a1_3]) (ok := fun _ => True) (okp := fun _ => True) ?hr ?hp (fun _ hk => hk) trivial (Below.refl _ _) (Nat.le_refl _) (by simp) ?_; (case hd => rfl); (case hg => rfl); (case hr => first | (go_simp; done) | (go_simp; rfl)); (case hp => exact (Reps.one (show Kd.M (Kd.int .i64) _ _ _ a1_2 [.int .i64 a1_2] from rfl) (Reps.one (show Kd.M (Kd.int .i64) _ _ _ a1_3 [.int .i64 a1_3] from rfl) (Reps.none _ _)))); intro v249 w48 ho49 hb hg_ hnew_; clear hg_ hnew_; (first | rw [← Ny248.out] at ho49 | (simp only [Int.reduceToNat] at ho49; rw [← Ny248.out] at ho49)); have HO250 := Aside0.mk (Kd.R_lower ho49 (below_size (dL1_ HB GE242))); replace BK242 := Aside0.mk (blk_below (g := gb242) (o := .cells #[.slice A1_0 l1_0.length c1_0, .slice A1_1 l1_1.length c1_1, .int .i64 a1_2, .int .i64 a1_3, .int .i64 a1_4, .int .i64 a1_5, .slice A1_6 l1_6.length c1_6] 26 (0, 0)) (dB_ BK242) hb); replace HB := Aside0.mk (below_step (dL1_ HB GE242) hb); clear hb ho49; obtain ⟨Ao50, co50, eo50⟩ := Kd.R_slice HO250.out; subst eo50) | ((with_reducible refine gate_callee (f := 18) rfl ?_); refine goesL_ (some 56) rfl rfl Try.func18 (by kernel_rfl) rfl #[.int .i64 0, .int .i64 100000, .slice Ao50 y248.length co50] rfl tA_ ?_; (with_reducible refine (fleet_within.calls k2 0 100000 _ _ y248 true _ ?side1 ?side2 A26.out).mono ?_); (case side1 => repeat (first | exact (Kd.R_reads' HO250.out).2.2 | (with_reducible refine Kd.C_alloc ?_ _) | (with_reducible refine Kd.C_drewN ?_ _) | (with_reducible refine Kd.C_drew ?_))); (case side2 => exact (Kd.R_reads' HO250.out).2.1); rintro e w' ⟨rfl, ⟨nd, rfl⟩⟩; refine ⟨_, rfl, ?_⟩; obtain ⟨hcz51_0, hcz51_1, hcz51_2, hcz51_3, hcz51_4, hcz51_5, hcz51_6, hfz51_0, hfz51_1, hfz51_2, hfz51_3, hfz51_4, hfz51_5, hfz51_6⟩ := cs7_ BK242.out) | ((with_reducible refine gate_dst (N := 61) rfl ?_); (try (refine gate_guard (by rfl) ?_; dsimp only)); refine Kd.R_lit (Kd.int .i64) _ 3 ?hg (N := 61) ?hd (xs := ([a1_4] : List Int)) (inner := [.int .i64 a1_4]) (ok := fun _ => True) (okp := fun _ => True) ?hr ?hp (fun _ hk => hk) trivial (Below.refl _ _) (Nat.le_refl _) (by simp) ?_; (case hd => rfl); (case hg => rfl); (case hr => first | (go_simp; done) | (go_simp; rfl)); (case hp => exact (Reps.one (show Kd.M (Kd.int .i64) _ _ _ a1_4 [.int .i64 a1_4] from rfl) (Reps.none _ _))); intro v253 w52 ho53 hb hg_ hnew_; clear hg_ hnew_; (first | rw [← Ny252.out] at ho53 | (simp only [Int.reduceToNat] at ho53; rw [← Ny252.out] at ho53)); have HO254 := Aside0.mk (Kd.R_lower (Kd.R_new' ho53 (Kd.R_lt (dR_ HO250))) (below_size (dL1_ HB GE242))); replace HO250 := Aside0.mk (Kd.R_elder' (dR_ HO250) (Kd.R_base ho53) hb); replace BK242 := Aside0.mk (blk_below (g := gb242) (o := .cells #[.slice A1_0 l1_0.length c1_0, .slice A1_1 l1_1.length c1_1, .int .i64 a1_2, .int .i64 a1_3, .int .i64 a1_4, .int .i64 a1_5, .slice A1_6 l1_6.length c1_6] 26 (0, 0)) (dB_ BK242) hb); replace HB := Aside0.mk (below_step (dL1_ HB GE242) hb); clear hb ho53; obtain ⟨Ao54, co54, eo54⟩ := Kd.R_slice HO254.out; subst eo54) | (go_at_call 18; (with_reducible refine (fleet_within.calls k2 0 1000 _ _ y252 true _ ?side1 ?side2 A28.out).mono ?_); (case side1 => repeat (first | exact (Kd.R_reads' HO254.out).2.2 | (with_reducible refine Kd.C_alloc ?_ _) | (with_reducible refine Kd.C_drewN ?_ _) | (with_reducible refine Kd.C_drew ?_))); (case side2 => exact (Kd.R_reads' HO254.out).2.1); rintro e w' ⟨rfl, ⟨nd, rfl⟩⟩; obtain ⟨hcz55_0, hcz55_1, hcz55_2, hcz55_3, hcz55_4, hcz55_5, hcz55_6, hfz55_0, hfz55_1, hfz55_2, hfz55_3, hfz55_4, hfz55_5, hfz55_6⟩ := cs7_ BK242.out) | ((with_reducible refine gate_dst (N := 68) rfl ?_); (try (refine gate_guard (by rfl) ?_; dsimp only)); refine Kd.R_lit (Kd.int .i64) _ 3 ?hg (N := 68) ?hd (xs := ([a1_5] : List Int)) (inner := [.int .i64 a1_5]) (ok := fun _ => True) (okp := fun _ => True) ?hr ?hp (fun _ hk => hk) trivial (Below.refl _ _) (Nat.le_refl _) (by simp) ?_; (case hd => rfl); (case hg => rfl); (case hr => first | (go_simp; done) | (go_simp; rfl)); (case hp => exact (Reps.one (show Kd.M (Kd.int .i64) _ _ _ a1_5 [.int .i64 a1_5] from rfl) (Reps.none _ _))); intro v257 w56 ho57 hb hg_ hnew_; clear hg_ hnew_; (first | rw [← Ny256.out] at ho57 | (simp only [Int.reduceToNat] at ho57; rw [← Ny256.out] at ho57)); have HO258 := Aside0.mk (Kd.R_lower (Kd.R_new' (Kd.R_new' ho57 (Kd.R_lt (dR_ HO250))) (Kd.R_lt (dR_ HO254))) (below_size (dL1_ HB GE242))); replace HO250 := Aside0.mk (Kd.R_elder' (dR_ HO250) (Kd.R_base ho57) hb); replace HO254 := Aside0.mk (Kd.R_elder' (dR_ HO254) (Kd.R_base ho57) hb); replace BK242 := Aside0.mk (blk_below (g := gb242) (o := .cells #[.slice A1_0 l1_0.length c1_0, .slice A1_1 l1_1.length c1_1, .int .i64 a1_2, .int .i64 a1_3, .int .i64 a1_4, .int .i64 a1_5, .slice A1_6 l1_6.length c1_6] 26 (0, 0)) (dB_ BK242) hb); replace HB := Aside0.mk (below_step (dL1_ HB GE242) hb); clear hb ho57; obtain ⟨Ao58, co58, eo58⟩ := Kd.R_slice HO258.out; subst eo58) | (go_at_call 18; (with_reducible refine (fleet_within.calls k2 0 1000000 _ _ y256 false _ ?side1 ?side2 A30.out).mono ?_); (case side1 => repeat (first | exact (Kd.R_reads' HO258.out).2.2 | (with_reducible refine Kd.C_alloc ?_ _) | (with_reducible refine Kd.C_drewN ?_ _) | (with_reducible refine Kd.C_drew ?_))); (case side2 => exact (Kd.R_reads' HO258.out).2.1); rintro e w' ⟨rfl, ⟨nd, rfl⟩⟩))
            go_meet
            case rel => exact ⟨_, (true), tS_, H', ⟨by have := HJ4.out; have := HK2.out; first | omega | exact Nat.le_refl _⟩, ⟨dB_ BK242⟩, ⟨dL1_ HB GE242⟩⟩
          ·replace c29 := Bool.eq_false_iff.mpr c29
           subst c29
           have H1 : (fleet_Validate.j3 k2 true) = some r := by rw [if_neg (show ¬ (false = true) by decide)] at H; exact H
           clear H
           have H := H1
           clear H1
           have H' := Aside0.mk H
           clear H
           obtain ⟨hcz59_0, hcz59_1, hcz59_2, hcz59_3, hcz59_4, hcz59_5, hcz59_6, hfz59_0, hfz59_1, hfz59_2, hfz59_3, hfz59_4, hfz59_5, hfz59_6⟩ := cs7_ BK242.out
           go_wp2_with (first | ((with_reducible refine gate_dst (N := 55) rfl ?_); (try (refine gate_guard (by rfl) ?_; dsimp only)); refine Kd.R_lit (Kd.int .i64) _ 3 ?hg (N := 55) ?hd (xs := ([a1_2, a1_3] : List Int)) (inner := [.int .i64 a1_2, .int .i64 a1_3]) (ok := fun _ => True) (okp := fun _ => True) ?hr ?hp (fun _ hk => hk) trivial (Below.refl _ _) (Nat.le_refl _) (by simp) ?_; (case hd => rfl); (case hg => rfl); (case hr => first | (go_simp; done) | (go_simp; rfl)); (case hp => exact (Reps.one (show Kd.M (Kd.int .i64) _ _ _ a1_2 [.int .i64 a1_2] from rfl) (Reps.one (show Kd.M (Kd.int .i64) _ _ _ a1_3 [.int .i64 a1_3] from rfl) (Reps.none _ _)))); intro v249 w60 ho61 hb hg_ hnew_; clear hg_ hnew_; (first | rw [← Ny248.out] at ho61 | (simp only [Int.reduceToNat] at ho61; rw [← Ny248.out] at ho61)); have HO250 := Aside0.mk (Kd.R_lower ho61 (below_size (dL1_ HB GE242))); replace BK242 := Aside0.mk (blk_below (g := gb242) (o := .cells #[.slice A1_0 l1_0.length c1_0, .slice A1_1 l1_1.length c1_1, .int .i64 a1_2, .int .i64 a1_3, .int .i64 a1_4, .int .i64 a1_5, .slice A1_6 l1_6.length c1_6] 26 (0, 0)) (dB_ BK242) hb); replace HB := Aside0.mk (below_step (dL1_ HB GE242) hb); clear hb ho61; obtain ⟨Ao62, co62, eo62⟩ := Kd.R_slice HO250.out; subst eo62) | ((with_reducible refine gate_callee (f := 18) rfl ?_); refine goesL_ (some 56) rfl rfl Try.func18 (by kernel_rfl) rfl #[.int .i64 0, .int .i64 100000, .slice Ao62 y248.length co62] rfl tA_ ?_; (with_reducible refine (fleet_within.calls k2 0 100000 _ _ y248 true _ ?side1 ?side2 A26.out).mono ?_); (case side1 => repeat (first | exact (Kd.R_reads' HO250.out).2.2 | (with_reducible refine Kd.C_alloc ?_ _) | (with_reducible refine Kd.C_drewN ?_ _) | (with_reducible refine Kd.C_drew ?_))); (case side2 => exact (Kd.R_reads' HO250.out).2.1); rintro e w' ⟨rfl, ⟨nd, rfl⟩⟩; refine ⟨_, rfl, ?_⟩; obtain ⟨hcz63_0, hcz63_1, hcz63_2, hcz63_3, hcz63_4, hcz63_5, hcz63_6, hfz63_0, hfz63_1, hfz63_2, hfz63_3, hfz63_4, hfz63_5, hfz63_6⟩ := cs7_ BK242.out) | ((with_reducible refine gate_dst (N := 61) rfl ?_); (try (refine gate_guard (by rfl) ?_; dsimp only)); refine Kd.R_lit (Kd.int .i64) _ 3 ?hg (N := 61) ?hd (xs := ([a1_4] : List Int)) (inner := [.int .i64 a1_4]) (ok := fun _ => True) (okp := fun _ => True) ?hr ?hp (fun _ hk => hk) trivial (Below.refl _ _) (Nat.le_refl _) (by simp) ?_; (case hd => rfl); (case hg => rfl); (case hr => first | (go_simp; done) | (go_simp; rfl)); (case hp => exact (Reps.one (show Kd.M (Kd.int .i64) _ _ _ a1_4 [.int .i64 a1_4] from rfl) (Reps.none _ _))); intro v253 w64 ho65 hb hg_ hnew_; clear hg_ hnew_; (first | rw [← Ny252.out] at ho65 | (simp only [Int.reduceToNat] at ho65; rw [← Ny252.out] at ho65)); have HO254 := Aside0.mk (Kd.R_lower (Kd.R_new' ho65 (Kd.R_lt (dR_ HO250))) (below_size (dL1_ HB GE242))); replace HO250 := Aside0.mk (Kd.R_elder' (dR_ HO250) (Kd.R_base ho65) hb); replace BK242 := Aside0.mk (blk_below (g := gb242) (o := .cells #[.slice A1_0 l1_0.length c1_0, .slice A1_1 l1_1.length c1_1, .int .i64 a1_2, .int .i64 a1_3, .int .i64 a1_4, .int .i64 a1_5, .slice A1_6 l1_6.length c1_6] 26 (0, 0)) (dB_ BK242) hb); replace HB := Aside0.mk (below_step (dL1_ HB GE242) hb); clear hb ho65; obtain ⟨Ao66, co66, eo66⟩ := Kd.R_slice HO254.out; subst eo66) | (go_at_call 18; (with_reducible refine (fleet_within.calls k2 0 1000 _ _ y252 false _ ?side1 ?side2 A28.out).mono ?_); (case side1 => repeat (first | exact (Kd.R_reads' HO254.out).2.2 | (with_reducible refine Kd.C_alloc ?_ _) | (with_reducible refine Kd.C_drewN ?_ _) | (with_reducible refine Kd.C_drew ?_))); (case side2 => exact (Kd.R_reads' HO254.out).2.1); rintro e w' ⟨rfl, ⟨nd, rfl⟩⟩))
           go_meet
           case rel => exact ⟨_, (true), tS_, H', ⟨by have := HJ4.out; have := HK2.out; first | omega | exact Nat.le_refl _⟩, ⟨dB_ BK242⟩, ⟨dL1_ HB GE242⟩⟩
         ·replace c27 := Bool.eq_false_iff.mpr c27
          subst c27
          have H1 : (fleet_Validate.j3 k2 true) = some r := by rw [if_neg (show ¬ (false = true) by decide)] at H; exact H
          clear H
          have H := H1
          clear H1
          have H' := Aside0.mk H
          clear H
          obtain ⟨hcz67_0, hcz67_1, hcz67_2, hcz67_3, hcz67_4, hcz67_5, hcz67_6, hfz67_0, hfz67_1, hfz67_2, hfz67_3, hfz67_4, hfz67_5, hfz67_6⟩ := cs7_ BK242.out
          go_wp2_with (first | ((with_reducible refine gate_dst (N := 55) rfl ?_); (try (refine gate_guard (by rfl) ?_; dsimp only)); refine Kd.R_lit (Kd.int .i64) _ 3 ?hg (N := 55) ?hd (xs := ([a1_2, a1_3] : List Int)) (inner := [.int .i64 a1_2, .int .i64 a1_3]) (ok := fun _ => True) (okp := fun _ => True) ?hr ?hp (fun _ hk => hk) trivial (Below.refl _ _) (Nat.le_refl _) (by simp) ?_; (case hd => rfl); (case hg => rfl); (case hr => first | (go_simp; done) | (go_simp; rfl)); (case hp => exact (Reps.one (show Kd.M (Kd.int .i64) _ _ _ a1_2 [.int .i64 a1_2] from rfl) (Reps.one (show Kd.M (Kd.int .i64) _ _ _ a1_3 [.int .i64 a1_3] from rfl) (Reps.none _ _)))); intro v249 w68 ho69 hb hg_ hnew_; clear hg_ hnew_; (first | rw [← Ny248.out] at ho69 | (simp only [Int.reduceToNat] at ho69; rw [← Ny248.out] at ho69)); have HO250 := Aside0.mk (Kd.R_lower ho69 (below_size (dL1_ HB GE242))); replace BK242 := Aside0.mk (blk_below (g := gb242) (o := .cells #[.slice A1_0 l1_0.length c1_0, .slice A1_1 l1_1.length c1_1, .int .i64 a1_2, .int .i64 a1_3, .int .i64 a1_4, .int .i64 a1_5, .slice A1_6 l1_6.length c1_6] 26 (0, 0)) (dB_ BK242) hb); replace HB := Aside0.mk (below_step (dL1_ HB GE242) hb); clear hb ho69; obtain ⟨Ao70, co70, eo70⟩ := Kd.R_slice HO250.out; subst eo70) | ((with_reducible refine gate_callee (f := 18) rfl ?_); refine goesL_ (some 56) rfl rfl Try.func18 (by kernel_rfl) rfl #[.int .i64 0, .int .i64 100000, .slice Ao70 y248.length co70] rfl tA_ ?_; (with_reducible refine (fleet_within.calls k2 0 100000 _ _ y248 false _ ?side1 ?side2 A26.out).mono ?_); (case side1 => repeat (first | exact (Kd.R_reads' HO250.out).2.2 | (with_reducible refine Kd.C_alloc ?_ _) | (with_reducible refine Kd.C_drewN ?_ _) | (with_reducible refine Kd.C_drew ?_))); (case side2 => exact (Kd.R_reads' HO250.out).2.1); rintro e w' ⟨rfl, ⟨nd, rfl⟩⟩; refine ⟨_, rfl, ?_⟩))
          go_meet
          case rel => exact ⟨_, (true), tS_, H', ⟨by have := HJ4.out; have := HK2.out; first | omega | exact Nat.le_refl _⟩, ⟨dB_ BK242⟩, ⟨dL1_ HB GE242⟩⟩
        case rest =>
         clear HC25
         try clear c4
         try clear c4b0
         try clear c4b1
         try clear c9
         try clear c13
         try clear c15
         try clear c15b0
         try clear c16
         try clear c17
         try clear c19
         try clear c20
         try clear c21
         try clear c22
         try clear hcz14_0
         try clear hcz14_1
         try clear hcz14_2
         try clear hcz14_3
         try clear hcz14_4
         try clear hcz14_5
         try clear hcz14_6
         try clear hcz7_0
         try clear hcz7_1
         try clear hcz7_2
         try clear hcz7_3
         try clear hcz7_4
         try clear hcz7_5
         try clear hcz7_6
         try clear hfz14_0
         try clear hfz14_1
         try clear hfz14_2
         try clear hfz14_3
         try clear hfz14_4
         try clear hfz14_5
         try clear hfz14_6
         try clear hfz7_0
         try clear hfz7_1
         try clear hfz7_2
         try clear hfz7_3
         try clear hfz7_4
         try clear hfz7_5
         try clear hfz7_6
         obtain ⟨kq, x77_24, rfl, HA, HJ24, BK242, HB⟩ := hcut
         cases kq with
         | zero => exact absurd HA.out (by simp [fleet_Validate.j3])
         | succ kj24 =>
          have H := HA.out
          clear HA
          simp only [fleet_Validate.j3] at H
          by_cases c71 : x77_24 = true
          ·subst c71
           have H1 : (some 1) = some r := by rw [if_pos rfl] at H; exact H
           clear H
           have H := H1
           clear H1
           obtain rfl := Option.some.inj H
           go_wp2
           go_ret
           exact ⟨tE_, dL1_ HB GE242⟩
          ·replace c71 := Bool.eq_false_iff.mpr c71
           subst c71
           have H1 : (some 0) = some r := by rw [if_neg (show ¬ (false = true) by decide)] at H; exact H
           clear H
           have H := H1
           clear H1
           obtain rfl := Option.some.inj H
           go_wp2
           go_ret
           exact ⟨tE_, dL1_ HB GE242⟩
 ·rw [if_neg c4] at H
  have c4b0 : (t243 == 0) = false := beq_eq_false_iff_ne.mpr c4
  have c4b1 : (t243 != 0) = true := bne_iff_ne.mpr c4
  obtain rfl := Option.some.inj H
  go_enter Try.func11, Try.ntmps11
  go_wp2_with (first | ((with_reducible refine gate_dst (N := 3) rfl ?_); (try (refine gate_guard (by rfl) ?_; dsimp only)); refine box_event ?hg (N := 3) ?hd (cs := #[.slice A1_0 l1_0.length c1_0, .slice A1_1 l1_1.length c1_1, .int .i64 a1_2, .int .i64 a1_3, .int .i64 a1_4, .int .i64 a1_5, .slice A1_6 l1_6.length c1_6]) (t := 26) ?hr ?_; (case hd => rfl); (case hg => rfl); (case hr => first | (go_simp; done) | (go_simp; rfl)); intro gb242 hg w72 hbox hb; have BK242 := Aside0.mk (hbox); have GW242 := Aside0.mk ((dS_ hg (dL_ HB) : w.heap.size ≤ gb242)); have GE242 := Aside0.mk ((dS_ hg (dL_ HB) : w.heap.size ≤ gb242)); replace HB := Aside0.mk (below_step (dL_ HB) hb); clear hb hbox hg; obtain ⟨hcz73_0, hcz73_1, hcz73_2, hcz73_3, hcz73_4, hcz73_5, hcz73_6, hfz73_0, hfz73_1, hfz73_2, hfz73_3, hfz73_4, hfz73_5, hfz73_6⟩ := cs7_ BK242.out) | ((with_reducible refine gate_callee (f := 28) rfl ?_); refine goesL_ (some 11) rfl rfl Try.func28 (by kernel_rfl) rfl #[.slice A0 l0.length c0, .slice A1_0 l1_0.length c1_0] rfl tA_ ?_; (with_reducible refine (fleet_joined.calls k _ _ l0 _ _ l1_0 t243 _ ?side1 ?side2 ?side3 ?side4 A3.out).mono ?_); (case side1 => exact dC_ HR0 HB); (case side2 => exact HC0.out); (case side3 => exact dC_ HR1_0 HB); (case side4 => exact HC1_0.out); rintro e w74 ⟨rfl, hb⟩; refine ⟨_, rfl, ?_⟩; replace BK242 := Aside0.mk (blk_below (g := gb242) (o := .cells #[.slice A1_0 l1_0.length c1_0, .slice A1_1 l1_1.length c1_1, .int .i64 a1_2, .int .i64 a1_3, .int .i64 a1_4, .int .i64 a1_5, .slice A1_6 l1_6.length c1_6] 26 (0, 0)) (dB_ BK242) hb); replace HB := Aside0.mk (below_step (dL1_ HB GE242) hb)))
  go_ret
  exact ⟨tE_, dL1_ HB GE242⟩

end Go.Proofs.Ytgnahbjpockdmab.Q
