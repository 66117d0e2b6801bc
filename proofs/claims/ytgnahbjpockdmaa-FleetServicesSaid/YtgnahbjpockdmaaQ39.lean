-- PRINTED by print.py out of the translation. Not trusted: Lean checks it.
import Derived.Test.YtgnahbjpockdmaaPrs
import Derived.Test.YtgnahbjpockdmaaQ0
import Derived.Test.YtgnahbjpockdmaaQ2
import Derived.Test.YtgnahbjpockdmaaQ7
import Derived.Test.YtgnahbjpockdmaaQ27
import Derived.Test.YtgnahbjpockdmaaQ13
import Derived.Test.YtgnahbjpockdmaaQ17
import Derived.Test.YtgnahbjpockdmaaQ36
namespace Go.Proofs.Ytgnahbjpockdmaa.Q
open Go.RowKit Go.Proofs.YtgnahbjpockdmaaPrs Go.Proofs.YtgnahbjpockdmaaOwn Go.Proofs.YtgnahbjpockdmaaW.PrintWords Go.Proofs.YtgnahbjpockdmaaW.PrintLast Go.Proofs.YtgnahbjpockdmaaW.PrintMore
attribute [local go_sem] max2_int min2_int max_two min_two max_three min_three max_four min_four   -- for this text's walks alone
set_option linter.unusedVariables false
set_option linter.unusedSimpArgs false

/-! ### fleet_Validate: function 25 -/
mutual
def fleet_Validate.j0 : Nat → List (S54) → Bool → List Int → List Int → Int → Int → Int → Int → List (S69) → Option (Int)
  | 0, _, _, _, _, _, _, _, _, _ => none
  | k + 1, x0, x27, x394000, x394001, x394002, x394003, x394004, x394005, x394006 => if x27 = true then (some 1) else (fleet_Validate.l0 k x0 x394000 (x394000.length : Int) 0 x394000 x394001 x394002 x394003 x394004 x394005 x394006)
def fleet_Validate.l0 : Nat → List (S54) → List Int → Int → Int → List Int → List Int → Int → Int → Int → Int → List (S69) → Option (Int)
  | 0, _, _, _, _, _, _, _, _, _, _, _ => none
  | k + 1, x0, x29, x30, x31, x394000, x394001, x394002, x394003, x394004, x394005, x394006 => if x31 < x30 then (if 0 ≤ x31 then (if x31 < (x29.length : Int) then (if 0 ≤ (rd x29 x31) then (if (rd x29 x31) < (x0.length : Int) then (if ((rd_T54 x0 (rd x29 x31)).f7) = 0 then (if x31 < (x394001.length : Int) then (fleet_Validate.j2 k x0 x29 x30 x31 ((rd x394001 x31) != (-1)) x394000 x394001 x394002 x394003 x394004 x394005 x394006) else (none)) else (fleet_Validate.j2 k x0 x29 x30 x31 false x394000 x394001 x394002 x394003 x394004 x394005 x394006)) else (none)) else (none)) else (none)) else (none)) else ((fleet_within.f k 0 100000 (([x394002, x394003] : List Int))).bind fun t402 => (if t402 = true then ((fleet_within.f k 0 1000 (([x394004] : List Int))).bind fun t406 => (if t406 = true then ((fleet_within.f k 0 1000000 (([x394005] : List Int))).bind fun t410 => (if t410 = true then ((cargo_Validate.f k x394006).bind fun t411 => (fleet_Validate.j3 k (t411 != 0))) else (fleet_Validate.j3 k true))) else (fleet_Validate.j3 k true))) else (fleet_Validate.j3 k true)))
def fleet_Validate.j2 : Nat → List (S54) → List Int → Int → Int → Bool → List Int → List Int → Int → Int → Int → Int → List (S69) → Option (Int)
  | 0, _, _, _, _, _, _, _, _, _, _, _, _ => none
  | k + 1, x0, x29, x30, x31, x49, x394000, x394001, x394002, x394003, x394004, x394005, x394006 => if x49 = true then (some 1) else (fleet_Validate.l0 k x0 x29 x30 (wrap64 (x31 + 1)) x394000 x394001 x394002 x394003 x394004 x394005 x394006)
def fleet_Validate.j3 : Nat → Bool → Option (Int)
  | 0, _ => none
  | k + 1, x77 => if x77 = true then (some 1) else (some 0)
end
def fleet_Validate.f (k : Nat) (l0 : List (S54)) (l1_0 : List Int) (l1_1 : List Int) (a1_2 : Int) (a1_3 : Int) (a1_4 : Int) (a1_5 : Int) (l1_6 : List (S69)) : Option (Int) := (fleet_joined.f k l0 l1_0).bind fun t394 => (if t394 = 0 then (if (l1_1.length : Int) = (l1_0.length : Int) then ((fleet_within.f k (-1) 15 l1_1).bind fun t395 => (fleet_Validate.j0 k l0 (!t395) l1_0 l1_1 a1_2 a1_3 a1_4 a1_5 l1_6)) else (fleet_Validate.j0 k l0 true l1_0 l1_1 a1_2 a1_3 a1_4 a1_5 l1_6)) else (some t394))
theorem fleet_Validate.mono_l : ∀ k, (∀ y0 y1 y2 y3 y4 y5 y6 y7 y8, LeO (fleet_Validate.j0 k y0 y1 y2 y3 y4 y5 y6 y7 y8) (fleet_Validate.j0 (k + 1) y0 y1 y2 y3 y4 y5 y6 y7 y8)) ∧ (∀ y0 y1 y2 y3 y4 y5 y6 y7 y8 y9 y10, LeO (fleet_Validate.l0 k y0 y1 y2 y3 y4 y5 y6 y7 y8 y9 y10) (fleet_Validate.l0 (k + 1) y0 y1 y2 y3 y4 y5 y6 y7 y8 y9 y10)) ∧ (∀ y0 y1 y2 y3 y4 y5 y6 y7 y8 y9 y10 y11, LeO (fleet_Validate.j2 k y0 y1 y2 y3 y4 y5 y6 y7 y8 y9 y10 y11) (fleet_Validate.j2 (k + 1) y0 y1 y2 y3 y4 y5 y6 y7 y8 y9 y10 y11)) ∧ (∀ y0, LeO (fleet_Validate.j3 k y0) (fleet_Validate.j3 (k + 1) y0))
  | 0 => ⟨fun _ _ _ _ _ _ _ _ _ r h => by simp [fleet_Validate.j0] at h, fun _ _ _ _ _ _ _ _ _ _ _ r h => by simp [fleet_Validate.l0] at h, fun _ _ _ _ _ _ _ _ _ _ _ _ r h => by simp [fleet_Validate.j2] at h, fun _ r h => by simp [fleet_Validate.j3] at h⟩
  | k + 1 => by
    obtain ⟨ih0, ih1, ih2, ih3⟩ := fleet_Validate.mono_l k
    refine ⟨?_, ?_, ?_, ?_⟩
    · intro y0 y1 y2 y3 y4 y5 y6 y7 y8
      unfold fleet_Validate.j0
      repeat' first
      | (with_reducible first | exact ih0 _ _ _ _ _ _ _ _ _ | exact ih1 _ _ _ _ _ _ _ _ _ _ _ | exact ih2 _ _ _ _ _ _ _ _ _ _ _ _ | exact ih3 _ | exact cargo_Validate.mono _ _ | exact fleet_joined.mono _ _ _ | exact fleet_within.mono _ _ _ _ | exact LeO.refl _ | exact LeO.none _ | refine LeO.ite ?_ ?_ | refine LeO.bind ?_ (fun _ => ?_))
      | exact ih0 _ _ _ _ _ _ _ _ _
      | exact ih1 _ _ _ _ _ _ _ _ _ _ _
      | exact ih2 _ _ _ _ _ _ _ _ _ _ _ _
      | exact ih3 _
      | exact cargo_Validate.mono _ _
      | exact fleet_joined.mono _ _ _
      | exact fleet_within.mono _ _ _ _
      | exact LeO.none _
      | refine LeO.ite ?_ ?_
      | refine LeO.bind ?_ (fun _ => ?_)
    · intro y0 y1 y2 y3 y4 y5 y6 y7 y8 y9 y10
      unfold fleet_Validate.l0
      repeat' first
      | (with_reducible first | exact ih0 _ _ _ _ _ _ _ _ _ | exact ih1 _ _ _ _ _ _ _ _ _ _ _ | exact ih2 _ _ _ _ _ _ _ _ _ _ _ _ | exact ih3 _ | exact cargo_Validate.mono _ _ | exact fleet_joined.mono _ _ _ | exact fleet_within.mono _ _ _ _ | exact LeO.refl _ | exact LeO.none _ | refine LeO.ite ?_ ?_ | refine LeO.bind ?_ (fun _ => ?_))
      | exact ih0 _ _ _ _ _ _ _ _ _
      | exact ih1 _ _ _ _ _ _ _ _ _ _ _
      | exact ih2 _ _ _ _ _ _ _ _ _ _ _ _
      | exact ih3 _
      | exact cargo_Validate.mono _ _
      | exact fleet_joined.mono _ _ _
      | exact fleet_within.mono _ _ _ _
      | exact LeO.none _
      | refine LeO.ite ?_ ?_
      | refine LeO.bind ?_ (fun _ => ?_)
    · intro y0 y1 y2 y3 y4 y5 y6 y7 y8 y9 y10 y11
      unfold fleet_Validate.j2
      repeat' first
      | (with_reducible first | exact ih0 _ _ _ _ _ _ _ _ _ | exact ih1 _ _ _ _ _ _ _ _ _ _ _ | exact ih2 _ _ _ _ _ _ _ _ _ _ _ _ | exact ih3 _ | exact cargo_Validate.mono _ _ | exact fleet_joined.mono _ _ _ | exact fleet_within.mono _ _ _ _ | exact LeO.refl _ | exact LeO.none _ | refine LeO.ite ?_ ?_ | refine LeO.bind ?_ (fun _ => ?_))
      | exact ih0 _ _ _ _ _ _ _ _ _
      | exact ih1 _ _ _ _ _ _ _ _ _ _ _
      | exact ih2 _ _ _ _ _ _ _ _ _ _ _ _
      | exact ih3 _
      | exact cargo_Validate.mono _ _
      | exact fleet_joined.mono _ _ _
      | exact fleet_within.mono _ _ _ _
      | exact LeO.none _
      | refine LeO.ite ?_ ?_
      | refine LeO.bind ?_ (fun _ => ?_)
    · intro y0
      unfold fleet_Validate.j3
      repeat' first
      | (with_reducible first | exact ih0 _ _ _ _ _ _ _ _ _ | exact ih1 _ _ _ _ _ _ _ _ _ _ _ | exact ih2 _ _ _ _ _ _ _ _ _ _ _ _ | exact ih3 _ | exact cargo_Validate.mono _ _ | exact fleet_joined.mono _ _ _ | exact fleet_within.mono _ _ _ _ | exact LeO.refl _ | exact LeO.none _ | refine LeO.ite ?_ ?_ | refine LeO.bind ?_ (fun _ => ?_))
      | exact ih0 _ _ _ _ _ _ _ _ _
      | exact ih1 _ _ _ _ _ _ _ _ _ _ _
      | exact ih2 _ _ _ _ _ _ _ _ _ _ _ _
      | exact ih3 _
      | exact cargo_Validate.mono _ _
      | exact fleet_joined.mono _ _ _
      | exact fleet_within.mono _ _ _ _
      | exact LeO.none _
      | refine LeO.ite ?_ ?_
      | refine LeO.bind ?_ (fun _ => ?_)
theorem fleet_Validate.mono : ∀ a0 a1 a2 a3 a4 a5 a6 a7 k, LeO (fleet_Validate.f k a0 a1 a2 a3 a4 a5 a6 a7) (fleet_Validate.f (k + 1) a0 a1 a2 a3 a4 a5 a6 a7) := by
  intro a0 a1 a2 a3 a4 a5 a6 a7 k
  obtain ⟨ih0, ih1, ih2, ih3⟩ := fleet_Validate.mono_l k
  unfold fleet_Validate.f
  repeat' first
      | (with_reducible first | exact ih0 _ _ _ _ _ _ _ _ _ | exact ih1 _ _ _ _ _ _ _ _ _ _ _ | exact ih2 _ _ _ _ _ _ _ _ _ _ _ _ | exact ih3 _ | exact cargo_Validate.mono _ _ | exact fleet_joined.mono _ _ _ | exact fleet_within.mono _ _ _ _ | exact LeO.refl _ | exact LeO.none _ | refine LeO.ite ?_ ?_ | refine LeO.bind ?_ (fun _ => ?_))
      | exact ih0 _ _ _ _ _ _ _ _ _
      | exact ih1 _ _ _ _ _ _ _ _ _ _ _
      | exact ih2 _ _ _ _ _ _ _ _ _ _ _ _
      | exact ih3 _
      | exact cargo_Validate.mono _ _
      | exact fleet_joined.mono _ _ _
      | exact fleet_within.mono _ _ _ _
      | exact LeO.none _
      | refine LeO.ite ?_ ?_
      | refine LeO.bind ?_ (fun _ => ?_)
set_option maxHeartbeats 8000000 in
set_option maxRecDepth 100000 in
theorem fleet_Validate.calls (k : Nat) (A0 : Option Addr) (c0 : Nat) (l0 : List (S54)) (A1_0 : Option Addr) (c1_0 : Nat) (l1_0 : List Int) (A1_1 : Option Addr) (c1_1 : Nat) (l1_1 : List Int) (a1_2 : Int) (a1_3 : Int) (a1_4 : Int) (a1_5 : Int) (A1_6 : Option Addr) (c1_6 : Nat) (l1_6 : List (S69)) (r : Int) (w : World) (hr0 : Kd.C k54 w A0 l0.length l0) (hc0 : l0.length ≤ c0) (hr1_0 : Kd.C (Kd.int .i64) w A1_0 l1_0.length l1_0) (hc1_0 : l1_0.length ≤ c1_0) (hr1_1 : Kd.C (Kd.int .i64) w A1_1 l1_1.length l1_1) (hc1_1 : l1_1.length ≤ c1_1) (hr1_6 : Kd.C k69 w A1_6 l1_6.length l1_6) (hc1_6 : l1_6.length ≤ c1_6) (h : fleet_Validate.f k l0 l1_0 l1_1 a1_2 a1_3 a1_4 a1_5 l1_6 = some r) :
    Calls Try.prog 25 #[.slice A0 l0.length c0, .agg #[.slice A1_0 l1_0.length c1_0, .slice A1_1 l1_1.length c1_1, .int .i64 a1_2, .int .i64 a1_3, .int .i64 a1_4, .int .i64 a1_5, .slice A1_6 l1_6.length c1_6]] w fun e w' => e = .returned (.int .i64 r) ∧ Below w.heap.size w w' := by
 have hu27 := Try.underlying27
 have HR0 := Aside0.mk hr0
 have HC0 := Aside0.mk hc0
 clear hr0 hc0
 have HR1_0 := Aside0.mk hr1_0
 have HC1_0 := Aside0.mk hc1_0
 clear hr1_0 hc1_0
 have HR1_1 := Aside0.mk hr1_1
 have HC1_1 := Aside0.mk hc1_1
 clear hr1_1 hc1_1
 have HR1_6 := Aside0.mk hr1_6
 have HC1_6 := Aside0.mk hc1_6
 clear hr1_6 hc1_6
 have HB := Aside0.mk (Below.refl w.heap.size w)
 have H : ((fleet_joined.f k l0 l1_0).bind fun t394 => (if t394 = 0 then (if (l1_1.length : Int) = (l1_0.length : Int) then ((fleet_within.f k (-1) 15 l1_1).bind fun t395 => (fleet_Validate.j0 k l0 (!t395) l1_0 l1_1 a1_2 a1_3 a1_4 a1_5 l1_6)) else (fleet_Validate.j0 k l0 true l1_0 l1_1 a1_2 a1_3 a1_4 a1_5 l1_6)) else (some t394))) = some r := h
 clear h
 replace H := Option.bind_eq_some_iff.mp H
 obtain ⟨t394, A30, H⟩ := H
 replace H : (if t394 = 0 then (if (l1_1.length : Int) = (l1_0.length : Int) then ((fleet_within.f k (-1) 15 l1_1).bind fun t395 => (fleet_Validate.j0 k l0 (!t395) l1_0 l1_1 a1_2 a1_3 a1_4 a1_5 l1_6)) else (fleet_Validate.j0 k l0 true l1_0 l1_1 a1_2 a1_3 a1_4 a1_5 l1_6)) else (some t394)) = some r := H
 have A3 := Aside0.mk A30
 clear A30
 by_cases c4 : t394 = 0
 ·rw [if_pos c4] at H
  have c4b0 : (t394 == 0) = true := beq_iff_eq.mpr c4
  have c4b1 : (t394 != 0) = false := bne_eq_false_iff_eq.mpr c4
  clear c4
  have HC5 := Aside0.mk H
  clear H
  go_enter Try.func25, Try.ntmps25
  go_upto_region 4 with (first | ((with_reducible refine gate_dst (N := 3) rfl ?_); (try (refine gate_guard (by rfl) ?_; dsimp only)); refine box_event ?hg (N := 3) ?hd (cs := #[.slice A1_0 l1_0.length c1_0, .slice A1_1 l1_1.length c1_1, .int .i64 a1_2, .int .i64 a1_3, .int .i64 a1_4, .int .i64 a1_5, .slice A1_6 l1_6.length c1_6]) (t := 27) ?hr ?_; (case hd => rfl); (case hg => rfl); (case hr => first | (go_simp; done) | (go_simp; rfl)); intro gb393 hg w6 hbox hb; have BK393 := Aside0.mk (hbox); have GW393 := Aside0.mk ((dS_ hg (dL_ HB) : w.heap.size ≤ gb393)); have GE393 := Aside0.mk ((dS_ hg (dL_ HB) : w.heap.size ≤ gb393)); replace HB := Aside0.mk (below_step (dL_ HB) hb); clear hb hbox hg; obtain ⟨hcz7_0, hcz7_1, hcz7_2, hcz7_3, hcz7_4, hcz7_5, hcz7_6, hfz7_0, hfz7_1, hfz7_2, hfz7_3, hfz7_4, hfz7_5, hfz7_6⟩ := cs7_ BK393.out) | ((with_reducible refine gate_callee (f := 39) rfl ?_); refine goesL_ (some 11) rfl rfl Try.func39 (by kernel_rfl) rfl #[.slice A0 l0.length c0, .slice A1_0 l1_0.length c1_0] rfl tA_ ?_; (with_reducible refine (fleet_joined.calls k _ _ l0 _ _ l1_0 t394 _ ?side1 ?side2 ?side3 ?side4 A3.out).mono ?_); (case side1 => exact dC_ HR0 HB); (case side2 => exact HC0.out); (case side3 => exact dC_ HR1_0 HB); (case side4 => exact HC1_0.out); rintro e w8 ⟨rfl, hb⟩; refine ⟨_, rfl, ?_⟩; replace BK393 := Aside0.mk (blk_below (g := gb393) (o := .cells #[.slice A1_0 l1_0.length c1_0, .slice A1_1 l1_1.length c1_1, .int .i64 a1_2, .int .i64 a1_3, .int .i64 a1_4, .int .i64 a1_5, .slice A1_6 l1_6.length c1_6] 27 (0, 0)) (dB_ BK393) hb); replace HB := Aside0.mk (below_step (dL1_ HB GE393) hb)))
  (try simp only [Act.put, List.setIfInBounds_toArray, List.set_cons_zero, List.set_cons_succ])
  go_cut [27] (fun v27 wc => ∃ (kq : Nat) (x27_4 : Bool), v27 = .bool x27_4 ∧ Aside0 (fleet_Validate.j0 kq l0 x27_4 l1_0 l1_1 a1_2 a1_3 a1_4 a1_5 l1_6 = some r) ∧ Aside0 (kq ≤ k) ∧ Aside0 (wc.heap[gb393]? = some (.cells #[(.slice A1_0 l1_0.length c1_0), (.slice A1_1 l1_1.length c1_1), .int .i64 a1_2, .int .i64 a1_3, .int .i64 a1_4, .int .i64 a1_5, (.slice A1_6 l1_6.length c1_6)] 27 (0, 0))) ∧ Aside0 (Below w.heap.size w wc))
  case first =>
   have H := HC5.out
   clear HC5
   by_cases c9 : (l1_1.length : Int) = (l1_0.length : Int)
   ·rw [if_pos c9] at H
    have c9b0 : ((l1_1.length : Int) == (l1_0.length : Int)) = true := beq_iff_eq.mpr c9
    have c9b1 : ((l1_1.length : Int) != (l1_0.length : Int)) = false := bne_eq_false_iff_eq.mpr c9
    have c9b2 : (l1_1.length == l1_0.length) = true := by first | simpa using c9 | (simp at c9 ⊢; omega)
    clear c9
    (first | rw [c9b0] | (simp only [i64_w, i32_w]; rw [c9b0]) | skip)
    replace H := Option.bind_eq_some_iff.mp H
    obtain ⟨t395, A100, H⟩ := H
    replace H : (fleet_Validate.j0 k l0 (!t395) l1_0 l1_1 a1_2 a1_3 a1_4 a1_5 l1_6) = some r := H
    have A10 := Aside0.mk A100
    clear A100
    have H' := Aside0.mk H
    clear H
    obtain ⟨hcz11_0, hcz11_1, hcz11_2, hcz11_3, hcz11_4, hcz11_5, hcz11_6, hfz11_0, hfz11_1, hfz11_2, hfz11_3, hfz11_4, hfz11_5, hfz11_6⟩ := cs7_ BK393.out
    go_wp2_with (first | (go_at_call 41; (with_reducible refine (fleet_within.calls k (-1) 15 _ _ l1_1 t395 _ ?side1 ?side2 A10.out).mono ?_); (case side1 => exact dC_ HR1_1 HB); (case side2 => exact HC1_1.out); rintro e w' ⟨rfl, ⟨nd, rfl⟩⟩))
    go_meet
    case rel => exact ⟨_, (!t395), tS_, H', ⟨by first | omega | exact Nat.le_refl _⟩, ⟨dB_ BK393⟩, ⟨dL1_ HB GE393⟩⟩
   ·rw [if_neg c9] at H
    have c9b0 : ((l1_1.length : Int) == (l1_0.length : Int)) = false := beq_eq_false_iff_ne.mpr c9
    have c9b1 : ((l1_1.length : Int) != (l1_0.length : Int)) = true := bne_iff_ne.mpr c9
    have c9b2 : (l1_1.length == l1_0.length) = false := by first | simpa using c9 | (simp at c9 ⊢; omega)
    (first | rw [c9b0] | (simp only [i64_w, i32_w]; rw [c9b0]) | skip)
    have H' := Aside0.mk H
    clear H
    obtain ⟨hcz12_0, hcz12_1, hcz12_2, hcz12_3, hcz12_4, hcz12_5, hcz12_6, hfz12_0, hfz12_1, hfz12_2, hfz12_3, hfz12_4, hfz12_5, hfz12_6⟩ := cs7_ BK393.out
    go_wp2
    go_meet
    case rel => exact ⟨_, (true), tS_, H', ⟨by first | omega | exact Nat.le_refl _⟩, ⟨dB_ BK393⟩, ⟨dL1_ HB GE393⟩⟩
  case rest =>
   clear HC5
   try clear c4
   try clear c4b0
   try clear c4b1
   try clear c9
   try clear hcz7_0
   try clear hcz7_1
   try clear hcz7_2
   try clear hcz7_3
   try clear hcz7_4
   try clear hcz7_5
   try clear hcz7_6
   try clear hfz7_0
   try clear hfz7_1
   try clear hfz7_2
   try clear hfz7_3
   try clear hfz7_4
   try clear hfz7_5
   try clear hfz7_6
   obtain ⟨kq, x27_4, rfl, HA, HJ4, BK393, HB⟩ := hcut
   cases kq with
   | zero => exact absurd HA.out (by simp [fleet_Validate.j0])
   | succ kj4 =>
    have H := HA.out
    clear HA
    simp only [fleet_Validate.j0] at H
    by_cases c13 : x27_4 = true
    ·subst c13
     have H1 : (some 1) = some r := by rw [if_pos rfl] at H; exact H
     clear H
     have H := H1
     clear H1
     obtain rfl := Option.some.inj H
     go_wp2
     go_ret
     exact ⟨tE_, dL1_ HB GE393⟩
    ·replace c13 := Bool.eq_false_iff.mpr c13
     subst c13
     have H1 : (fleet_Validate.l0 kj4 l0 l1_0 (l1_0.length : Int) 0 l1_0 l1_1 a1_2 a1_3 a1_4 a1_5 l1_6) = some r := by rw [if_neg (show ¬ (false = true) by decide)] at H; exact H
     clear H
     have H := H1
     clear H1
     have H' := Aside0.mk H
     clear H
     obtain ⟨hcz14_0, hcz14_1, hcz14_2, hcz14_3, hcz14_4, hcz14_5, hcz14_6, hfz14_0, hfz14_1, hfz14_2, hfz14_3, hfz14_4, hfz14_5, hfz14_6⟩ := cs7_ BK393.out
     go_wp2
     go_loopg [31] kj4 (fun kq v31 w' => ∃ (x31_2 : Int), v31 = .int .i64 x31_2 ∧ Aside0 (fleet_Validate.l0 kq l0 l1_0 (l1_0.length : Int) x31_2 l1_0 l1_1 a1_2 a1_3 a1_4 a1_5 l1_6 = some r) ∧ Aside0 (kq ≤ kj4) ∧ Aside0 (w'.heap[gb393]? = some (.cells #[(.slice A1_0 l1_0.length c1_0), (.slice A1_1 l1_1.length c1_1), .int .i64 a1_2, .int .i64 a1_3, .int .i64 a1_4, .int .i64 a1_5, (.slice A1_6 l1_6.length c1_6)] 27 (0, 0))) ∧ Aside0 (Below w.heap.size w w'))
     case atStart => exact ⟨(0), tS_, H', ⟨Nat.le_refl _⟩, ⟨dB_ BK393⟩, ⟨dL1_ HB GE393⟩⟩
     case round =>
      clear H'
      try clear c4
      try clear c4b0
      try clear c4b1
      try clear c9
      try clear c13
      try clear hcz14_0
      try clear hcz14_1
      try clear hcz14_2
      try clear hcz14_3
      try clear hcz14_4
      try clear hcz14_5
      try clear hcz14_6
      try clear hcz7_0
      try clear hcz7_1
      try clear hcz7_2
      try clear hcz7_3
      try clear hcz7_4
      try clear hcz7_5
      try clear hcz7_6
      try clear hfz14_0
      try clear hfz14_1
      try clear hfz14_2
      try clear hfz14_3
      try clear hfz14_4
      try clear hfz14_5
      try clear hfz14_6
      try clear hfz7_0
      try clear hfz7_1
      try clear hfz7_2
      try clear hfz7_3
      try clear hfz7_4
      try clear hfz7_5
      try clear hfz7_6
      obtain ⟨x31_2, rfl, HA, HK2, BK393, HB⟩ := hrel
      cases gk with
      | zero => exact absurd HA.out (by simp [fleet_Validate.l0])
      | succ k2 =>
       have H := HA.out
       clear HA
       simp only [fleet_Validate.l0] at H
       by_cases c15 : x31_2 < (l1_0.length : Int)
       ·rw [if_pos c15] at H
        have c15b0 : decide (x31_2 < (l1_0.length : Int)) = true := decide_eq_true c15
        clear c15
        by_cases c16 : 0 ≤ x31_2
        ·rw [if_pos c16] at H
         have c16b0 : decide (0 ≤ x31_2) = true := decide_eq_true c16
         clear c16
         by_cases c17 : x31_2 < (l1_0.length : Int)
         ·rw [if_pos c17] at H
          have c17b0 : decide (x31_2 < (l1_0.length : Int)) = true := decide_eq_true c17
          clear c17
          have HC18 := Aside0.mk H
          clear H
          have p396 : 0 ≤ (x31_2 : Int) := of_decide_eq_true tW_
          have q396 : x31_2 < (l1_0.length : Int) := of_decide_eq_true tW_
          obtain ⟨ad396, e396, hx396_0⟩ := Kd.at_int HR1_0.out x31_2 p396 q396
          cases e396
          replace hx396_0 := bc_ HB hx396_0
          replace p396 := eq_true p396
          replace q396 := eq_true q396
          go_upto_region 9 with (fail)
          go_cut [49] (fun v49 wc => ∃ (kq : Nat) (x49_17 : Bool), v49 = .bool x49_17 ∧ Aside0 (fleet_Validate.j2 kq l0 l1_0 (l1_0.length : Int) x31_2 x49_17 l1_0 l1_1 a1_2 a1_3 a1_4 a1_5 l1_6 = some r) ∧ Aside0 (kq ≤ k2) ∧ Aside0 (wc.heap[gb393]? = some (.cells #[(.slice (some ad396) l1_0.length c1_0), (.slice A1_1 l1_1.length c1_1), .int .i64 a1_2, .int .i64 a1_3, .int .i64 a1_4, .int .i64 a1_5, (.slice A1_6 l1_6.length c1_6)] 27 (0, 0))) ∧ Aside0 (Below w.heap.size w wc))
          case first =>
           have H := HC18.out
           clear HC18
           by_cases c19 : 0 ≤ (rd l1_0 x31_2)
           ·rw [if_pos c19] at H
            have c19b0 : decide (0 ≤ (rd l1_0 x31_2)) = true := decide_eq_true c19
            clear c19
            (first | rw [c19b0] | (simp only [i64_w, i32_w]; rw [c19b0]) | skip)
            by_cases c20 : (rd l1_0 x31_2) < (l0.length : Int)
            ·rw [if_pos c20] at H
             have c20b0 : decide ((rd l1_0 x31_2) < (l0.length : Int)) = true := decide_eq_true c20
             clear c20
             by_cases c21 : ((rd_T54 l0 (rd l1_0 x31_2)).f7) = 0
             ·rw [if_pos c21] at H
              have c21b0 : (((rd_T54 l0 (rd l1_0 x31_2)).f7) == 0) = true := beq_iff_eq.mpr c21
              have c21b1 : (((rd_T54 l0 (rd l1_0 x31_2)).f7) != 0) = false := bne_eq_false_iff_eq.mpr c21
              clear c21
              by_cases c22 : x31_2 < (l1_1.length : Int)
              ·rw [if_pos c22] at H
               have c22b0 : decide (x31_2 < (l1_1.length : Int)) = true := decide_eq_true c22
               clear c22
               have H' := Aside0.mk H
               clear H
               have p397 : 0 ≤ ((rd l1_0 x31_2) : Int) := of_decide_eq_true tW_
               have q397 : (rd l1_0 x31_2) < (l0.length : Int) := of_decide_eq_true tW_
               obtain ⟨ad397, e397, hx397_0, hx397_1, hx397_2, hx397_3, hx397_4, hx397_5, hx397_6, hx397_7, hx397_8, hx397_9, hx397_10, hx397_11, hx397_12, hx397_13⟩ := at_T54 HR0.out (rd l1_0 x31_2) p397 q397
               cases e397
               replace hx397_0 := bc_ HB hx397_0
               replace hx397_1 := bc_ HB hx397_1
               replace hx397_2 := bc_ HB hx397_2
               replace hx397_3 := bc_ HB hx397_3
               replace hx397_4 := bc_ HB hx397_4
               replace hx397_5 := bc_ HB hx397_5
               replace hx397_6 := bc_ HB hx397_6
               replace hx397_7 := bc_ HB hx397_7
               replace hx397_8 := bc_ HB hx397_8
               replace hx397_9 := bc_ HB hx397_9
               replace hx397_10 := bc_ HB hx397_10
               replace hx397_11 := bc_ HB hx397_11
               replace hx397_12 := bc_ HB hx397_12
               replace hx397_13 := bc_ HB hx397_13
               replace p397 := eq_true p397
               replace q397 := eq_true q397
               obtain ⟨hcz23_0, hcz23_1, hcz23_2, hcz23_3, hcz23_4, hcz23_5, hcz23_6, hfz23_0, hfz23_1, hfz23_2, hfz23_3, hfz23_4, hfz23_5, hfz23_6⟩ := cs7_ BK393.out
               have p398 : 0 ≤ (x31_2 : Int) := of_decide_eq_true tW_
               have q398 : x31_2 < (l1_1.length : Int) := of_decide_eq_true tW_
               obtain ⟨ad398, e398, hx398_0⟩ := Kd.at_int HR1_1.out x31_2 p398 q398
               cases e398
               replace hx398_0 := bc_ HB hx398_0
               replace p398 := eq_true p398
               replace q398 := eq_true q398
               go_wp2
               go_meet
               case rel => exact ⟨_, (((rd l1_1 x31_2) != (-1))), tS_, H', ⟨by have := HJ4.out; have := HK2.out; first | omega | exact Nat.le_refl _⟩, ⟨dB_ BK393⟩, ⟨dL1_ HB GE393⟩⟩
              ·rw [if_neg c22] at H
               exact absurd H (by simp)
             ·rw [if_neg c21] at H
              have c21b0 : (((rd_T54 l0 (rd l1_0 x31_2)).f7) == 0) = false := beq_eq_false_iff_ne.mpr c21
              have c21b1 : (((rd_T54 l0 (rd l1_0 x31_2)).f7) != 0) = true := bne_iff_ne.mpr c21
              have H' := Aside0.mk H
              clear H
              have p397 : 0 ≤ ((rd l1_0 x31_2) : Int) := of_decide_eq_true tW_
              have q397 : (rd l1_0 x31_2) < (l0.length : Int) := of_decide_eq_true tW_
              obtain ⟨ad397, e397, hx397_0, hx397_1, hx397_2, hx397_3, hx397_4, hx397_5, hx397_6, hx397_7, hx397_8, hx397_9, hx397_10, hx397_11, hx397_12, hx397_13⟩ := at_T54 HR0.out (rd l1_0 x31_2) p397 q397
              cases e397
              replace hx397_0 := bc_ HB hx397_0
              replace hx397_1 := bc_ HB hx397_1
              replace hx397_2 := bc_ HB hx397_2
              replace hx397_3 := bc_ HB hx397_3
              replace hx397_4 := bc_ HB hx397_4
              replace hx397_5 := bc_ HB hx397_5
              replace hx397_6 := bc_ HB hx397_6
              replace hx397_7 := bc_ HB hx397_7
              replace hx397_8 := bc_ HB hx397_8
              replace hx397_9 := bc_ HB hx397_9
              replace hx397_10 := bc_ HB hx397_10
              replace hx397_11 := bc_ HB hx397_11
              replace hx397_12 := bc_ HB hx397_12
              replace hx397_13 := bc_ HB hx397_13
              replace p397 := eq_true p397
              replace q397 := eq_true q397
              go_wp2
              go_meet
              case rel => exact ⟨_, (false), tS_, H', ⟨by have := HJ4.out; have := HK2.out; first | omega | exact Nat.le_refl _⟩, ⟨dB_ BK393⟩, ⟨dL1_ HB GE393⟩⟩
            ·rw [if_neg c20] at H
             exact absurd H (by simp)
           ·rw [if_neg c19] at H
            exact absurd H (by simp)
          case rest =>
           clear HC18
           try clear c4
           try clear c4b0
           try clear c4b1
           try clear c9
           try clear c13
           try clear c15
           try clear c15b0
           try clear c16
           try clear c16b0
           try clear c17
           try clear c17b0
           try clear c19
           try clear c20
           try clear c21
           try clear c22
           try clear hcz14_0
           try clear hcz14_1
           try clear hcz14_2
           try clear hcz14_3
           try clear hcz14_4
           try clear hcz14_5
           try clear hcz14_6
           try clear hcz7_0
           try clear hcz7_1
           try clear hcz7_2
           try clear hcz7_3
           try clear hcz7_4
           try clear hcz7_5
           try clear hcz7_6
           try clear hfz14_0
           try clear hfz14_1
           try clear hfz14_2
           try clear hfz14_3
           try clear hfz14_4
           try clear hfz14_5
           try clear hfz14_6
           try clear hfz7_0
           try clear hfz7_1
           try clear hfz7_2
           try clear hfz7_3
           try clear hfz7_4
           try clear hfz7_5
           try clear hfz7_6
           try clear hx396_0
           try clear p396
           try clear q396
           obtain ⟨kq, x49_17, rfl, HA, HJ17, BK393, HB⟩ := hcut
           cases kq with
           | zero => exact absurd HA.out (by simp [fleet_Validate.j2])
           | succ kj17 =>
            have H := HA.out
            clear HA
            simp only [fleet_Validate.j2] at H
            by_cases c24 : x49_17 = true
            ·subst c24
             have H1 : (some 1) = some r := by rw [if_pos rfl] at H; exact H
             clear H
             have H := H1
             clear H1
             obtain rfl := Option.some.inj H
             go_wp2
             go_ret
             exact ⟨tE_, dL1_ HB GE393⟩
            ·replace c24 := Bool.eq_false_iff.mpr c24
             subst c24
             have H1 : (fleet_Validate.l0 kj17 l0 l1_0 (l1_0.length : Int) (wrap64 (x31_2 + 1)) l1_0 l1_1 a1_2 a1_3 a1_4 a1_5 l1_6) = some r := by rw [if_neg (show ¬ (false = true) by decide)] at H; exact H
             clear H
             have H := H1
             clear H1
             have H' := Aside0.mk H
             clear H
             go_wp2
             go_roundg kj17
             case measure => have := HJ4.out; have := HK2.out; have := HJ17.out; omega
             case rel => exact ⟨(wrap64 (x31_2 + 1)), tS_, H', ⟨by have := HJ4.out; have := HK2.out; have := HJ17.out; omega⟩, ⟨dB_ BK393⟩, ⟨dL1_ HB GE393⟩⟩
         ·rw [if_neg c17] at H
          exact absurd H (by simp)
        ·rw [if_neg c16] at H
         exact absurd H (by simp)
       ·rw [if_neg c15] at H
        have c15b0 : decide (x31_2 < (l1_0.length : Int)) = false := decide_eq_false c15
        clear c15
        have HC25 := Aside0.mk H
        clear H
        go_upto_region 12 with (fail)
        go_cut [77] (fun v77 wc => ∃ (kq : Nat) (x77_24 : Bool), v77 = .bool x77_24 ∧ Aside0 (fleet_Validate.j3 kq x77_24 = some r) ∧ Aside0 (kq ≤ k2) ∧ Aside0 (wc.heap[gb393]? = some (.cells #[(.slice A1_0 l1_0.length c1_0), (.slice A1_1 l1_1.length c1_1), .int .i64 a1_2, .int .i64 a1_3, .int .i64 a1_4, .int .i64 a1_5, (.slice A1_6 l1_6.length c1_6)] 27 (0, 0))) ∧ Aside0 (Below w.heap.size w wc))
        case first =>
         have H := HC25.out
         clear HC25
         obtain ⟨y399, hy399⟩ : ∃ y_ : List Int, y_ = (([a1_2, a1_3] : List Int)) := ⟨_, rfl⟩
         replace H : ((fleet_within.f k2 0 100000 y399).bind fun t402 => (if t402 = true then ((fleet_within.f k2 0 1000 (([a1_4] : List Int))).bind fun t406 => (if t406 = true then ((fleet_within.f k2 0 1000000 (([a1_5] : List Int))).bind fun t410 => (if t410 = true then ((cargo_Validate.f k2 l1_6).bind fun t411 => (fleet_Validate.j3 k2 (t411 != 0))) else (fleet_Validate.j3 k2 true))) else (fleet_Validate.j3 k2 true))) else (fleet_Validate.j3 k2 true))) = some r := by first | (rw [hy399]; with_reducible exact H) | (have H2_ := (Option.bind_some _ _).symm.trans H; rw [hy399]; with_reducible exact H2_) | (have H2_ := (Option.bind_some _ _).symm.trans H; with_reducible exact H2_) | with_reducible exact H | (rw [hy399]; exact H) | exact H
         have Ny399 := Aside0.mk hy399
         clear hy399
         replace H := Option.bind_eq_some_iff.mp H
         obtain ⟨t402, A260, H⟩ := H
         replace H : (if t402 = true then ((fleet_within.f k2 0 1000 (([a1_4] : List Int))).bind fun t406 => (if t406 = true then ((fleet_within.f k2 0 1000000 (([a1_5] : List Int))).bind fun t410 => (if t410 = true then ((cargo_Validate.f k2 l1_6).bind fun t411 => (fleet_Validate.j3 k2 (t411 != 0))) else (fleet_Validate.j3 k2 true))) else (fleet_Validate.j3 k2 true))) else (fleet_Validate.j3 k2 true)) = some r := H
         have A26 := Aside0.mk A260
         clear A260
         by_cases c27 : t402 = true
         ·subst c27
          have H1 : ((fleet_within.f k2 0 1000 (([a1_4] : List Int))).bind fun t406 => (if t406 = true then ((fleet_within.f k2 0 1000000 (([a1_5] : List Int))).bind fun t410 => (if t410 = true then ((cargo_Validate.f k2 l1_6).bind fun t411 => (fleet_Validate.j3 k2 (t411 != 0))) else (fleet_Validate.j3 k2 true))) else (fleet_Validate.j3 k2 true))) = some r := by rw [if_pos rfl] at H; exact H
          clear H
          have H := H1
          clear H1
          obtain ⟨y403, hy403⟩ : ∃ y_ : List Int, y_ = (([a1_4] : List Int)) := ⟨_, rfl⟩
          replace H : ((fleet_within.f k2 0 1000 y403).bind fun t406 => (if t406 = true then ((fleet_within.f k2 0 1000000 (([a1_5] : List Int))).bind fun t410 => (if t410 = true then ((cargo_Validate.f k2 l1_6).bind fun t411 => (fleet_Validate.j3 k2 (t411 != 0))) else (fleet_Validate.j3 k2 true))) else (fleet_Validate.j3 k2 true))) = some r := by first | (rw [hy403]; with_reducible exact H) | (have H2_ := (Option.bind_some _ _).symm.trans H; rw [hy403]; with_reducible exact H2_) | (have H2_ := (Option.bind_some _ _).symm.trans H; with_reducible exact H2_) | with_reducible exact H | (rw [hy403]; exact H) | exact H
          have Ny403 := Aside0.mk hy403
          clear hy403
          replace H := Option.bind_eq_some_iff.mp H
          obtain ⟨t406, A280, H⟩ := H
          replace H : (if t406 = true then ((fleet_within.f k2 0 1000000 (([a1_5] : List Int))).bind fun t410 => (if t410 = true then ((cargo_Validate.f k2 l1_6).bind fun t411 => (fleet_Validate.j3 k2 (t411 != 0))) else (fleet_Validate.j3 k2 true))) else (fleet_Validate.j3 k2 true)) = some r := H
          have A28 := Aside0.mk A280
          clear A280
          by_cases c29 : t406 = true
          ·subst c29
           have H1 : ((fleet_within.f k2 0 1000000 (([a1_5] : List Int))).bind fun t410 => (if t410 = true then ((cargo_Validate.f k2 l1_6).bind fun t411 => (fleet_Validate.j3 k2 (t411 != 0))) else (fleet_Validate.j3 k2 true))) = some r := by rw [if_pos rfl] at H; exact H
           clear H
           have H := H1
           clear H1
           obtain ⟨y407, hy407⟩ : ∃ y_ : List Int, y_ = (([a1_5] : List Int)) := ⟨_, rfl⟩
           replace H : ((fleet_within.f k2 0 1000000 y407).bind fun t410 => (if t410 = true then ((cargo_Validate.f k2 l1_6).bind fun t411 => (fleet_Validate.j3 k2 (t411 != 0))) else (fleet_Validate.j3 k2 true))) = some r := by first | (rw [hy407]; with_reducible exact H) | (have H2_ := (Option.bind_some _ _).symm.trans H; rw [hy407]; with_reducible exact H2_) | (have H2_ := (Option.bind_some _ _).symm.trans H; with_reducible exact H2_) | with_reducible exact H | (rw [hy407]; exact H) | exact H
           have Ny407 := Aside0.mk hy407
           clear hy407
           replace H := Option.bind_eq_some_iff.mp H
           obtain ⟨t410, A300, H⟩ := H
           replace H : (if t410 = true then ((cargo_Validate.f k2 l1_6).bind fun t411 => (fleet_Validate.j3 k2 (t411 != 0))) else (fleet_Validate.j3 k2 true)) = some r := H
           have A30 := Aside0.mk A300
           clear A300
           by_cases c31 : t410 = true
           ·subst c31
            have H1 : ((cargo_Validate.f k2 l1_6).bind fun t411 => (fleet_Validate.j3 k2 (t411 != 0))) = some r := by rw [if_pos rfl] at H; exact H
            clear H
            have H := H1
            clear H1
            replace H := Option.bind_eq_some_iff.mp H
            obtain ⟨t411, A320, H⟩ := H
            replace H : (fleet_Validate.j3 k2 (t411 != 0)) = some r := H
            have A32 := Aside0.mk A320
            clear A320
            have H' := Aside0.mk H
            clear H
            obtain ⟨hcz33_0, hcz33_1, hcz33_2, hcz33_3, hcz33_4, hcz33_5, hcz33_6, hfz33_0, hfz33_1, hfz33_2, hfz33_3, hfz33_4, hfz33_5, hfz33_6⟩ := cs7_ BK393.out
            go_wp2_with (first | ((with_reducible refine gate_dst (N := 55) rfl ?_); (try (refine gate_guard (by rfl) ?_; dsimp only)); refine Kd.R_lit (Kd.int .i64) _ 3 ?hg (N := 55) ?hd (xs := ([a1_2, a1_3] : List Int)) (inner := [.int .i64 a1_2, .int .i64 a1_3]) (ok := fun _ => True) (okp := fun _ => True) ?hr ?hp (fun _ hk => hk) trivial (Below.refl _ _) (Nat.le_refl _) (by simp) ?_; (case hd => rfl); (case hg => rfl); (case hr => first | (go_simp; done) | (go_simp; rfl)); (case hp => exact (Reps.one (show Kd.M (Kd.int .i64) _ _ _ a1_2 [.int .i64 a1_2] from rfl) (Reps.one (show Kd.M (Kd.int .i64) _ _ _ a1_3 [.int .i64 a1_3] from rfl) (Reps.none _ _)))); intro v400 w34 ho35 hb hg_ hnew_; clear hg_ hnew_; (first | rw [← Ny399.out] at ho35 | (simp only [Int.reduceToNat] at ho35; rw [← Ny399.out] at ho35)); have HO401 := Aside0.mk (Kd.R_lower ho35 (below_size (dL1_ HB GE393))); replace BK393 := Aside0.mk (blk_below (g := gb393) (o := .cells #[.slice A1_0 l1_0.length c1_0, .slice A1_1 l1_1.length c1_1, .int .i64 a1_2, .int .i64 a1_3, .int .i64 a1_4, .int .i64 a1_5, .slice A1_6 l1_6.length c1_6] 27 (0, 0)) (dB_ BK393) hb); replace HB := Aside0.mk (below_step (dL1_ HB GE393) hb); clear hb ho35; obtain ⟨Ao36, co36, eo36⟩ := Kd.R_slice HO401.out; subst eo36) | ((with_reducible refine gate_callee (f := 41) rfl ?_); refine goesL_ (some 56) rfl rfl Try.func41 (by kernel_rfl) rfl #[.int .i64 0, .int .i64 100000, .slice Ao36 y399.length co36] rfl tA_ ?_; (with_reducible refine (fleet_within.calls k2 0 100000 _ _ y399 true _ ?side1 ?side2 A26.out).mono ?_); (case side1 => repeat (first | exact (Kd.R_reads' HO401.out).2.2 | (with_reducible refine Kd.C_alloc ?_ _) | (with_reducible refine Kd.C_drewN ?_ _) | (with_reducible refine Kd.C_drew ?_))); (case side2 => exact (Kd.R_reads' HO401.out).2.1); rintro e w' ⟨rfl, ⟨nd, rfl⟩⟩; refine ⟨_, rfl, ?_⟩; obtain ⟨hcz37_0, hcz37_1, hcz37_2, hcz37_3, hcz37_4, hcz37_5, hcz37_6, hfz37_0, hfz37_1, hfz37_2, hfz37_3, hfz37_4, hfz37_5, hfz37_6⟩ := cs7_ BK393.out) | ((with_reducible refine gate_dst (N := 61) rfl ?_); (try (refine gate_guard (by rfl) ?_; dsimp only)); refine Kd.R_lit (Kd.int .i64) _ 3 ?hg (N := 61) ?hd (xs := ([a1_4] : List Int)) (inner := [.int .i64 a1_4]) (ok := fun _ => True) (okp := fun _ => True) ?hr ?hp (fun _ hk => hk) trivial (Below.refl _ _) (Nat.le_refl _) (by simp) ?_; (case hd => rfl); (case hg => rfl); (case hr => first | (go_simp; done) | (go_simp; rfl)); (case hp => exact (Reps.one (show Kd.M (Kd.int .i64) _ _ _ a1_4 [.int .i64 a1_4] from rfl) (Reps.none _ _))); intro v404 w38 ho39 hb hg_ hnew_; clear hg_ hnew_; (first | rw [← Ny403.out] at ho39 | (simp only [Int.reduceToNat] at ho39; rw [← Ny403.out] at ho39)); have HO405 := Aside0.mk (Kd.R_lower (Kd.R_new' ho39 (Kd.R_lt (dR_ HO401))) (below_size (dL1_ HB GE393))); replace HO401 := Aside0.mk (Kd.R_elder' (dR_ HO401) (Kd.R_base ho39) hb); replace BK393 := Aside0.mk (blk_below (g := gb393) (o := .cells #[.slice A1_0 l1_0.length c1_0, .slice A1_1 l1_1.length c1_1, .int .i64 a1_2, .int .i64 a1_3, .int .i64 a1_4, .int .i64 a1_5, .slice A1_6 l1_6.length c1_6] 27 (0, 0)) (dB_ BK393) hb); replace HB := Aside0.mk (below_step (dL1_ HB GE393) hb); clear hb ho39; obtain ⟨Ao40, co40, eo40⟩ := Kd.R_slice HO405.out; subst eo40) | (go_at_call 41; (with_reducible refine (fleet_within.calls k2 0 1000 _ _ y403 true _ ?side1 ?side2 A28.out).mono ?_); (case side1 => repeat (first | exact (Kd.R_reads' HO405.out).2.2 | (with_reducible refine Kd.C_alloc ?_ _) | (with_reducible refine Kd.C_drewN ?_ _) | (with_reducible refine Kd.C_drew ?_))); (case side2 => exact (Kd.R_reads' HO405.out).2.1); rintro e w' ⟨rfl, ⟨nd, rfl⟩⟩; obtain ⟨hcz41_0, hcz41_1, hcz41_2, hcz41_3, hcz41_4, hcz41_5, hcz41_6, hfz41_0, hfz41_1, hfz41_2, hfz41_3, hfz41_4, hfz41_5, hfz41_6⟩ := cs7_ BK393.out) | ((with_reducible refine gate_dst (N := 68) rfl ?_); (try (refine gate_guard (by rfl) ?_; dsimp only)); refine Kd.R_lit (Kd.int .i64) _ 3 ?hg (N := 68) ?hd (xs := ([a1_5] : List Int)) (inner := [.int .i64 a1_5]) (ok := fun _ => True) (okp := fun _ => True) ?hr ?hp (fun _ hk => hk) trivial (Below.refl _ _) (Nat.le_refl _) (by simp) ?_; (case hd => rfl); (case hg => rfl); (case hr => first | (go_simp; done) | (go_simp; rfl)); (case hp => exact (Reps.one (show Kd.M (Kd.int .i64) _ _ _ a1_5 [.int .i64 a1_5] from rfl) (Reps.none _ _))); intro v408 w42 ho43 hb hg_ hnew_; clear hg_ hnew_; (first | rw [← Ny407.out] at ho43 | (simp only [Int.reduceToNat] at ho43; rw [← Ny407.out] at ho43)); have HO409 := Aside0.mk (Kd.R_lower (Kd.R_new' (Kd.R_new' ho43 (Kd.R_lt (dR_ HO401))) (Kd.R_lt (dR_ HO405))) (below_size (dL1_ HB GE393))); replace HO401 := Aside0.mk (Kd.R_elder' (dR_ HO401) (Kd.R_base ho43) hb); replace HO405 := Aside0.mk (Kd.R_elder' (dR_ HO405) (Kd.R_base ho43) hb); replace BK393 := Aside0.mk (blk_below (g := gb393) (o := .cells #[.slice A1_0 l1_0.length c1_0, .slice A1_1 l1_1.length c1_1, .int .i64 a1_2, .int .i64 a1_3, .int .i64 a1_4, .int .i64 a1_5, .slice A1_6 l1_6.length c1_6] 27 (0, 0)) (dB_ BK393) hb); replace HB := Aside0.mk (below_step (dL1_ HB GE393) hb); clear hb ho43; obtain ⟨Ao44, co44, eo44⟩ := Kd.R_slice HO409.out; subst eo44) | (go_at_call 41; (with_reducible refine (fleet_within.calls k2 0 1000000 _ _ y407 true _ ?side1 ?side2 A30.out).mono ?_); (case side1 => repeat (first | exact (Kd.R_reads' HO409.out).2.2 | (with_reducible refine Kd.C_alloc ?_ _) | (with_reducible refine Kd.C_drewN ?_ _) | (with_reducible refine Kd.C_drew ?_))); (case side2 => exact (Kd.R_reads' HO409.out).2.1); rintro e w' ⟨rfl, ⟨nd, rfl⟩⟩; obtain ⟨hcz45_0, hcz45_1, hcz45_2, hcz45_3, hcz45_4, hcz45_5, hcz45_6, hfz45_0, hfz45_1, hfz45_2, hfz45_3, hfz45_4, hfz45_5, hfz45_6⟩ := cs7_ BK393.out) | (go_at_call 43; (with_reducible refine (cargo_Validate.calls k2 _ _ l1_6 t411 _ ?side1 ?side2 A32.out).mono ?_); (case side1 => repeat (first | exact (Kd.C_below HR1_6.out (dL1_ HB GE393)) | (with_reducible refine Kd.C_alloc ?_ _) | (with_reducible refine Kd.C_drewN ?_ _) | (with_reducible refine Kd.C_drew ?_))); (case side2 => exact HC1_6.out); rintro e w46 ⟨rfl, hb⟩; replace HO401 := Aside0.mk (Kd.R_below (dR_ HO401) hb); replace HO405 := Aside0.mk (Kd.R_below (dR_ HO405) hb); replace HO409 := Aside0.mk (Kd.R_below (dR_ HO409) hb); replace BK393 := Aside0.mk (blk_below (g := gb393) (o := .cells #[.slice A1_0 l1_0.length c1_0, .slice A1_1 l1_1.length c1_1, .int .i64 a1_2, .int .i64 a1_3, .int .i64 a1_4, .int .i64 a1_5, .slice A1_6 l1_6.length c1_6] 27 (0, 0)) (dB_ BK393) hb); replace HB := Aside0.mk (below_step (dL1_ HB GE393) hb)))
            go_meet
            case rel => exact ⟨_, ((t411 != 0)), tS_, H', ⟨by have := HJ4.out; have := HK2.out; first | omega | exact Nat.le_refl _⟩, ⟨dB_ BK393⟩, ⟨dL1_ HB GE393⟩⟩
           ·replace c31 := Bool.eq_false_iff.mpr c31
            subst c31
            have H1 : (fleet_Validate.j3 k2 true) = some r := by rw [if_neg (show ¬ (false = true) by decide)] at H; exact H
            clear H
            have H := H1
            clear H1
            have H' := Aside0.mk H
            clear H
            obtain ⟨hcz47_0, hcz47_1, hcz47_2, hcz47_3, hcz47_4, hcz47_5, hcz47_6, hfz47_0, hfz47_1, hfz47_2, hfz47_3, hfz47_4, hfz47_5, hfz47_6⟩ := cs7_ BK393.out
            go_wp2_with (first | ((with_reducible refine gate_dst (N := 55) rfl ?_); (try (refine gate_guard (by rfl) ?_; dsimp only)); refine Kd.R_lit (Kd.int .i64) _ 3 ?hg (N := 55) ?hd (xs := ([a1_2, a1_3] : List Int)) (inner := [.int .i64 a1_2, .int .i64 a1_3]) (ok := fun _ => True) (okp := fun _ => True) ?hr ?hp (fun _ hk => hk) trivial (Below.refl _ _) (Nat.le_refl _) (by simp) ?_; (case hd => rfl); (case hg => rfl); (case hr => first | (go_simp; done) | (go_simp; rfl)); (case hp => exact (Reps.one (show Kd.M (Kd.int .i64) _ _ _ a1_2 [.int .i64 a1_2] from rfl) (Reps.one (show Kd.M (Kd.int .i64) _ _ _ a1_3 [.int .i64 a1_3] from rfl) (Reps.none _ _)))); intro v400 w48 ho49 hb hg_ hnew_; clear hg_ hnew_; (first | rw [← Ny399.out] at ho49 | (simp only [Int.reduceToNat] at ho49; rw [← Ny399.out] at ho49)); have HO401 := Aside0.mk (Kd.R_lower ho49 (below_size (dL1_ HB GE393))); replace BK393 := Aside0.mk (blk_below (g := gb393) (o := .cells #[.slice A1_0 l1_0.length c1_0, .slice A1_1 l1_1.length c1_1, .int .i64 a1_2, .int .i64 a1_3, .int .i64 a1_4, .int .i64 a1_5, .slice A1_6 l1_6.length c1_6] 27 (0, 0)) (dB_ BK393) hb); replace HB := Aside0.mk (below_step (dL1_ HB GE393) hb); clear hb ho49; obtain ⟨Ao50, co50, eo50⟩ := Kd.R_slice HO401.out; subst eo50) | ((with_reducible refine gate_callee (f := 41) rfl ?_); refine goesL_ (some 56) rfl rfl Try.func41 (by kernel_rfl) rfl #[.int .i64 0, .int .i64 100000, .slice Ao50 y399.length co50] rfl tA_ ?_; (with_reducible refine (fleet_within.calls k2 0 100000 _ _ y399 true _ ?side1 ?side2 A26.out).mono ?_); (case side1 => repeat (first | exact (Kd.R_reads' HO401.out).2.2 | (with_reducible refine Kd.C_alloc ?_ _) | (with_reducible refine Kd.C_drewN ?_ _) | (with_reducible refine Kd.C_drew ?_))); (case side2 => exact (Kd.R_reads' HO401.out).2.1); rintro e w' ⟨rfl, ⟨nd, rfl⟩⟩; refine ⟨_, rfl, ?_⟩; obtain ⟨hcz51_0, hcz51_1, hcz51_2, hcz51_3, hcz51_4, hcz51_5, hcz51_6, hfz51_0, hfz51_1, hfz51_2, hfz51_3, hfz51_4, hfz51_5, hfz51_6⟩ := cs7_ BK393.out) | ((with_reducible refine gate_dst (N := 61) rfl ?_); (try (refine gate_guard (by rfl) ?_; dsimp only)); refine Kd.R_lit (Kd.int .i64) _ 3 ?hg (N := 61) ?hd (xs := ([a1_4] : List Int)) (inner := [.int .i64 a1_4]) (ok := fun _ => True) (okp := fun _ => True) ?hr ?hp (fun _ hk => hk) trivial (Below.refl _ _) (Nat.le_refl _) (by simp) ?_; (case hd => rfl); (case hg => rfl); (case hr => first | (go_simp; done) | (go_simp; rfl)); (case hp => exact (Reps.one (show Kd.M (Kd.int .i64) _ _ _ a1_4 [.int .i64 a1_4] from rfl) (Reps.none _ _))); intro v404 w52 ho53 hb hg_ hnew_; clear hg_ hnew_; (first | rw [← Ny403.out] at ho53 | (simp only [Int.reduceToNat] at ho53; rw [← Ny403.out] at ho53)); have HO405 := Aside0.mk (Kd.R_lower (Kd.R_new' ho53 (Kd.R_lt (dR_ HO401))) (below_size (dL1_ HB GE393))); replace HO401 := Aside0.mk (Kd.R_elder' (dR_ HO401) (Kd.R_base ho53) hb); replace BK393 := Aside0.mk (blk_below (g := gb393) (o := .cells #[.slice A1_0 l1_0.length c1_0, .slice A1_1 l1_1.length c1_1, .int .i64 a1_2, .int .i64 a1_3, .int .i64 a1_4, .int .i64 a1_5, .slice A1_6 l1_6.length c1_6] 27 (0, 0)) (dB_ BK393) hb); replace HB := Aside0.mk (below_step (dL1_ HB GE393) hb); clear hb ho53; obtain ⟨Ao54, co54, eo54⟩ := Kd.R_slice HO405.out; subst eo54) | (go_at_call 41; (with_reducible refine (fleet_within.calls k2 0 1000 _ _ y403 true _ ?side1 ?side2 A28.out).mono ?_); (case side1 => repeat (first | exact (Kd.R_reads' HO405.out).2.2 | (with_reducible refine Kd.C_alloc ?_ _) | (with_reducible refine Kd.C_drewN ?_ _) | (with_reducible refine Kd.C_drew ?_))); (case side2 => exact (Kd.R_reads' HO405.out).2.1); rintro e w' ⟨rfl, ⟨nd, rfl⟩⟩; obtain ⟨hcz55_0, hcz55_1, hcz55_2, hcz55_3, hcz55_4, hcz55_5, hcz55_6, hfz55_0, hfz55_1, hfz55_2, hfz55_3, hfz55_4, hfz55_5, hfz55_6⟩ := cs7_ BK393.out) | ((with_reducible refine gate_dst (N := 68) rfl ?_); (try (refine gate_guard (by rfl) ?_; dsimp only)); refine Kd.R_lit (Kd.int .i64) _ 3 ?hg (N := 68) ?hd (xs := ([a1_5] : List Int)) (inner := [.int .i64 a1_5]) (ok := fun _ => True) (okp := fun _ => True) ?hr ?hp (fun _ hk => hk) trivial (Below.refl _ _) (Nat.le_refl _) (by simp) ?_; (case hd => rfl); (case hg => rfl); (case hr => first | (go_simp; done) | (go_simp; rfl)); (case hp => exact (Reps.one (show Kd.M (Kd.int .i64) _ _ _ a1_5 [.int .i64 a1_5] from rfl) (Reps.none _ _))); intro v408 w56 ho57 hb hg_ hnew_; clear hg_ hnew_; (first | rw [← Ny407.out] at ho57 | (simp only [Int.reduceToNat] at ho57; rw [← Ny407.out] at ho57)); have HO409 := Aside0.mk (Kd.R_lower (Kd.R_new' (Kd.R_new' ho57 (Kd.R_lt (dR_ HO401))) (Kd.R_lt (dR_ HO405))) (below_size (dL1_ HB GE393))); replace HO401 := Aside0.mk (Kd.R_elder' (dR_ HO401) (Kd.R_base ho57) hb); replace HO405 := Aside0.mk (Kd.R_elder' (dR_ HO405) (Kd.R_base ho57) hb); replace BK393 := Aside0.mk (blk_below (g := gb393) (o := .cells #[.slice A1_0 l1_0.length c1_0, .slice A1_1 l1_1.length c1_1, .int .i64 a1_2, .int .i64 a1_3, .int .i64 a1_4, .int .i64 a1_5, .slice A1_6 l1_6.length c1_6] 27 (0, 0)) (dB_ BK393) hb); replace HB := Aside0.mk (below_step (dL1_ HB GE393) hb); clear hb ho57; obtain ⟨Ao58, co58, eo58⟩ := Kd.R_slice HO409.out; subst eo58) | (go_at_call 41; (with_reducible refine (fleet_within.calls k2 0 1000000 _ _ y407 false _ ?side1 ?side2 A30.out).mono ?_); (case side1 => repeat (first | exact (Kd.R_reads' HO409.out).2.2 | (with_reducible refine Kd.C_alloc ?_ _) | (with_reducible refine Kd.C_drewN ?_ _) | (with_reducible refine Kd.C_drew ?_))); (case side2 => exact (Kd.R_reads' HO409.out).2.1); rintro e w' ⟨rfl, ⟨nd, rfl⟩⟩))
            go_meet
            case rel => exact ⟨_, (true), tS_, H', ⟨by have := HJ4.out; have := HK2.out; first | omega | exact Nat.le_refl _⟩, ⟨dB_ BK393⟩, ⟨dL1_ HB GE393⟩⟩
          ·replace c29 := Bool.eq_false_iff.mpr c29
           subst c29
           have H1 : (fleet_Validate.j3 k2 true) = some r := by rw [if_neg (show ¬ (false = true) by decide)] at H; exact H
           clear H
           have H := H1
           clear H1
           have H' := Aside0.mk H
           clear H
           obtain ⟨hcz59_0, hcz59_1, hcz59_2, hcz59_3, hcz59_4, hcz59_5, hcz59_6, hfz59_0, hfz59_1, hfz59_2, hfz59_3, hfz59_4, hfz59_5, hfz59_6⟩ := cs7_ BK393.out
           go_wp2_with (first | ((with_reducible refine gate_dst (N := 55) rfl ?_); (try (refine gate_guard (by rfl) ?_; dsimp only)); refine Kd.R_lit (Kd.int .i64) _ 3 ?hg (N := 55) ?hd (xs := ([a1_2, a1_3] : List Int)) (inner := [.int .i64 a1_2, .int .i64 a1_3]) (ok := fun _ => True) (okp := fun _ => True) ?hr ?hp (fun _ hk => hk) trivial (Below.refl _ _) (Nat.le_refl _) (by simp) ?_; (case hd => rfl); (case hg => rfl); (case hr => first | (go_simp; done) | (go_simp; rfl)); (case hp => exact (Reps.one (show Kd.M (Kd.int .i64) _ _ _ a1_2 [.int .i64 a1_2] from rfl) (Reps.one (show Kd.M (Kd.int .i64) _ _ _ a1_3 [.int .i64 a1_3] from rfl) (Reps.none _ _)))); intro v400 w60 ho61 hb hg_ hnew_; clear hg_ hnew_; (first | rw [← Ny399.out] at ho61 | (simp only [Int.reduceToNat] at ho61; rw [← Ny399.out] at ho61)); have HO401 := Aside0.mk (Kd.R_lower ho61 (below_size (dL1_ HB GE393))); replace BK393 := Aside0.mk (blk_below (g := gb393) (o := .cells #[.slice A1_0 l1_0.length c1_0, .slice A1_1 l1_1.length c1_1, .int .i64 a1_2, .int .i64 a1_3, .int .i64 a1_4, .int .i64 a1_5, .slice A1_6 l1_6.length c1_6] 27 (0, 0)) (dB_ BK393) hb); replace HB := Aside0.mk (below_step (dL1_ HB GE393) hb); clear hb ho61; obtain ⟨Ao62, co62, eo62⟩ := Kd.R_slice HO401.out; subst eo62) | ((with_reducible refine gate_callee (f := 41) rfl ?_); refine goesL_ (some 56) rfl rfl Try.func41 (by kernel_rfl) rfl #[.int .i64 0, .int .i64 100000, .slice Ao62 y399.length co62] rfl tA_ ?_; (with_reducible refine (fleet_within.calls k2 0 100000 _ _ y399 true _ ?side1 ?side2 A26.out).mono ?_); (case side1 => repeat (first | exact (Kd.R_reads' HO401.out).2.2 | (with_reducible refine Kd.C_alloc ?_ _) | (with_reducible refine Kd.C_drewN ?_ _) | (with_reducible refine Kd.C_drew ?_))); (case side2 => exact (Kd.R_reads' HO401.out).2.1); rintro e w' ⟨rfl, ⟨nd, rfl⟩⟩; refine ⟨_, rfl, ?_⟩; obtain ⟨hcz63_0, hcz63_1, hcz63_2, hcz63_3, hcz63_4, hcz63_5, hcz63_6, hfz63_0, hfz63_1, hfz63_2, hfz63_3, hfz63_4, hfz63_5, hfz63_6⟩ := cs7_ BK393.out) | ((with_reducible refine gate_dst (N := 61) rfl ?_); (try (refine gate_guard (by rfl) ?_; dsimp only)); refine Kd.R_lit (Kd.int .i64) _ 3 ?hg (N := 61) ?hd (xs := ([a1_4] : List Int)) (inner := [.int .i64 a1_4]) (ok := fun _ => True) (okp := fun _ => True) ?hr ?hp (fun _ hk => hk) trivial (Below.refl _ _) (Nat.le_refl _) (by simp) ?_; (case hd => rfl); (case hg => rfl); (case hr => first | (go_simp; done) | (go_simp; rfl)); (case hp => exact (Reps.one (show Kd.M (Kd.int .i64) _ _ _ a1_4 [.int .i64 a1_4] from rfl) (Reps.none _ _))); intro v404 w64 ho65 hb hg_ hnew_; clear hg_ hnew_; (first | rw [← Ny403.out] at ho65 | (simp only [Int.reduceToNat] at ho65; rw [← Ny403.out] at ho65)); have HO405 := Aside0.mk (Kd.R_lower (Kd.R_new' ho65 (Kd.R_lt (dR_ HO401))) (below_size (dL1_ HB GE393))); replace HO401 := Aside0.mk (Kd.R_elder' (dR_ HO401) (Kd.R_base ho65) hb); replace BK393 := Aside0.mk (blk_below (g := gb393) (o := .cells #[.slice A1_0 l1_0.length c1_0, .slice A1_1 l1_1.length c1_1, .int .i64 a1_2, .int .i64 a1_3, .int .i64 a1_4, .int .i64 a1_5, .slice A1_6 l1_6.length c1_6] 27 (0, 0)) (dB_ BK393) hb); replace HB := Aside0.mk (below_step (dL1_ HB GE393) hb); clear hb ho65; obtain ⟨Ao66, co66, eo66⟩ := Kd.R_slice HO405.out; subst eo66) | (go_at_call 41; (with_reducible refine (fleet_within.calls k2 0 1000 _ _ y403 false _ ?side1 ?side2 A28.out).mono ?_); (case side1 => repeat (first | exact (Kd.R_reads' HO405.out).2.2 | (with_reducible refine Kd.C_alloc ?_ _) | (with_reducible refine Kd.C_drewN ?_ _) | (with_reducible refine Kd.C_drew ?_))); (case side2 => exact (Kd.R_reads' HO405.out).2.1); rintro e w' ⟨rfl, ⟨nd, rfl⟩⟩))
           go_meet
           case rel => exact ⟨_, (true), tS_, H', ⟨by have := HJ4.out; have := HK2.out; first | omega | exact Nat.le_refl _⟩, ⟨dB_ BK393⟩, ⟨dL1_ HB GE393⟩⟩
         ·replace c27 := Bool.eq_false_iff.mpr c27
          subst c27
          have H1 : (fleet_Validate.j3 k2 true) = some r := by rw [if_neg (show ¬ (false = true) by decide)] at H; exact H
          clear H
          have H := H1
          clear H1
          have H' := Aside0.mk H
          clear H
          obtain ⟨hcz67_0, hcz67_1, hcz67_2, hcz67_3, hcz67_4, hcz67_5, hcz67_6, hfz67_0, hfz67_1, hfz67_2, hfz67_3, hfz67_4, hfz67_5, hfz67_6⟩ := cs7_ BK393.out
          go_wp2_with (first | ((with_reducible refine gate_dst (N := 55) rfl ?_); (try (refine gate_guard (by rfl) ?_; dsimp only)); refine Kd.R_lit (Kd.int .i64) _ 3 ?hg (N := 55) ?hd (xs := ([a1_2, a1_3] : List Int)) (inner := [.int .i64 a1_2, .int .i64 a1_3]) (ok := fun _ => True) (okp := fun _ => True) ?hr ?hp (fun _ hk => hk) trivial (Below.refl _ _) (Nat.le_refl _) (by simp) ?_; (case hd => rfl); (case hg => rfl); (case hr => first | (go_simp; done) | (go_simp; rfl)); (case hp => exact (Reps.one (show Kd.M (Kd.int .i64) _ _ _ a1_2 [.int .i64 a1_2] from rfl) (Reps.one (show Kd.M (Kd.int .i64) _ _ _ a1_3 [.int .i64 a1_3] from rfl) (Reps.none _ _)))); intro v400 w68 ho69 hb hg_ hnew_; clear hg_ hnew_; (first | rw [← Ny399.out] at ho69 | (simp only [Int.reduceToNat] at ho69; rw [← Ny399.out] at ho69)); have HO401 := Aside0.mk (Kd.R_lower ho69 (below_size (dL1_ HB GE393))); replace BK393 := Aside0.mk (blk_below (g := gb393) (o := .cells #[.slice A1_0 l1_0.length c1_0, .slice A1_1 l1_1.length c1_1, .int .i64 a1_2, .int .i64 a1_3, .int .i64 a1_4, .int .i64 a1_5, .slice A1_6 l1_6.length c1_6] 27 (0, 0)) (dB_ BK393) hb); replace HB := Aside0.mk (below_step (dL1_ HB GE393) hb); clear hb ho69; obtain ⟨Ao70, co70, eo70⟩ := Kd.R_slice HO401.out; subst eo70) | ((with_reducible refine gate_callee (f := 41) rfl ?_); refine goesL_ (some 56) rfl rfl Try.func41 (by kernel_rfl) rfl #[.int .i64 0, .int .i64 100000, .slice Ao70 y399.length co70] rfl tA_ ?_; (with_reducible refine (fleet_within.calls k2 0 100000 _ _ y399 false _ ?side1 ?side2 A26.out).mono ?_); (case side1 => repeat (first | exact (Kd.R_reads' HO401.out).2.2 | (with_reducible refine Kd.C_alloc ?_ _) | (with_reducible refine Kd.C_drewN ?_ _) | (with_reducible refine Kd.C_drew ?_))); (case side2 => exact (Kd.R_reads' HO401.out).2.1); rintro e w' ⟨rfl, ⟨nd, rfl⟩⟩; refine ⟨_, rfl, ?_⟩))
          go_meet
          case rel => exact ⟨_, (true), tS_, H', ⟨by have := HJ4.out; have := HK2.out; first | omega | exact Nat.le_refl _⟩, ⟨dB_ BK393⟩, ⟨dL1_ HB GE393⟩⟩
        case rest =>
         clear HC25
         try clear c4
         try clear c4b0
         try clear c4b1
         try clear c9
         try clear c13
         try clear c15
         try clear c15b0
         try clear c16
         try clear c17
         try clear c19
         try clear c20
         try clear c21
         try clear c22
         try clear hcz14_0
         try clear hcz14_1
         try clear hcz14_2
         try clear hcz14_3
         try clear hcz14_4
         try clear hcz14_5
         try clear hcz14_6
         try clear hcz7_0
         try clear hcz7_1
         try clear hcz7_2
         try clear hcz7_3
         try clear hcz7_4
         try clear hcz7_5
         try clear hcz7_6
         try clear hfz14_0
         try clear hfz14_1
         try clear hfz14_2
         try clear hfz14_3
         try clear hfz14_4
         try clear hfz14_5
         try clear hfz14_6
         try clear hfz7_0
         try clear hfz7_1
         try clear hfz7_2
         try clear hfz7_3
         try clear hfz7_4
         try clear hfz7_5
         try clear hfz7_6
         obtain ⟨kq, x77_24, rfl, HA, HJ24, BK393, HB⟩ := hcut
         cases kq with
         | zero => exact absurd HA.out (by simp [fleet_Validate.j3])
         | succ kj24 =>
          have H := HA.out
          clear HA
          simp only [fleet_Validate.j3] at H
          by_cases c71 : x77_24 = true
          ·subst c71
           have H1 : (some 1) = some r := by rw [if_pos rfl] at H; exact H
           clear H
           have H := H1
           clear H1
           obtain rfl := Option.some.inj H
           go_wp2
           go_ret
           exact ⟨tE_, dL1_ HB GE393⟩
          ·replace c71 := Bool.eq_false_iff.mpr c71
           subst c71
           have H1 : (some 0) = some r := by rw [if_neg (show ¬ (false = true) by decide)] at H; exact H
           clear H
           have H := H1
           clear H1
           obtain rfl := Option.some.inj H
           go_wp2
           go_ret
           exact ⟨tE_, dL1_ HB GE393⟩
 ·rw [if_neg c4] at H
  have c4b0 : (t394 == 0) = false := beq_eq_false_iff_ne.mpr c4
  have c4b1 : (t394 != 0) = true := bne_iff_ne.mpr c4
  obtain rfl := Option.some.inj H
  go_enter Try.func25, Try.ntmps25
  go_wp2_with (first | ((with_reducible refine gate_dst (N := 3) rfl ?_); (try (refine gate_guard (by rfl) ?_; dsimp only)); refine box_event ?hg (N := 3) ?hd (cs := #[.slice A1_0 l1_0.length c1_0, .slice A1_1 l1_1.length c1_1, .int .i64 a1_2, .int .i64 a1_3, .int .i64 a1_4, .int .i64 a1_5, .slice A1_6 l1_6.length c1_6]) (t := 27) ?hr ?_; (case hd => rfl); (case hg => rfl); (case hr => first | (go_simp; done) | (go_simp; rfl)); intro gb393 hg w72 hbox hb; have BK393 := Aside0.mk (hbox); have GW393 := Aside0.mk ((dS_ hg (dL_ HB) : w.heap.size ≤ gb393)); have GE393 := Aside0.mk ((dS_ hg (dL_ HB) : w.heap.size ≤ gb393)); replace HB := Aside0.mk (below_step (dL_ HB) hb); clear hb hbox hg; obtain ⟨hcz73_0, hcz73_1, hcz73_2, hcz73_3, hcz73_4, hcz73_5, hcz73_6, hfz73_0, hfz73_1, hfz73_2, hfz73_3, hfz73_4, hfz73_5, hfz73_6⟩ := cs7_ BK393.out) | ((with_reducible refine gate_callee (f := 39) rfl ?_); refine goesL_ (some 11) rfl rfl Try.func39 (by kernel_rfl) rfl #[.slice A0 l0.length c0, .slice A1_0 l1_0.length c1_0] rfl tA_ ?_; (with_reducible refine (fleet_joined.calls k _ _ l0 _ _ l1_0 t394 _ ?side1 ?side2 ?side3 ?side4 A3.out).mono ?_); (case side1 => exact dC_ HR0 HB); (case side2 => exact HC0.out); (case side3 => exact dC_ HR1_0 HB); (case side4 => exact HC1_0.out); rintro e w74 ⟨rfl, hb⟩; refine ⟨_, rfl, ?_⟩; replace BK393 := Aside0.mk (blk_below (g := gb393) (o := .cells #[.slice A1_0 l1_0.length c1_0, .slice A1_1 l1_1.length c1_1, .int .i64 a1_2, .int .i64 a1_3, .int .i64 a1_4, .int .i64 a1_5, .slice A1_6 l1_6.length c1_6] 27 (0, 0)) (dB_ BK393) hb); replace HB := Aside0.mk (below_step (dL1_ HB GE393) hb)))
  go_ret
  exact ⟨tE_, dL1_ HB GE393⟩

end Go.Proofs.Ytgnahbjpockdmaa.Q
namespace Go.Proofs.Ytgnahbjpockdmaa.Q
open Go.RowKit Go.Proofs.YtgnahbjpockdmaaPrs Go.Proofs.YtgnahbjpockdmaaOwn Go.Proofs.YtgnahbjpockdmaaW.PrintWords Go.Proofs.YtgnahbjpockdmaaW.PrintLast Go.Proofs.YtgnahbjpockdmaaW.PrintMore
attribute [local go_sem] max2_int min2_int max_two min_two max_three min_three max_four min_four   -- for this text's walks alone
set_option linter.unusedVariables false
set_option linter.unusedSimpArgs false

/-! ### hinterlandref14_Validate: function 26 -/
mutual
def hinterlandref14_Validate.l0 : Nat → List (S54) → List Int → Int → Int → List Int → List Int → Int → Int → Int → Int → List (S69) → Option (Int)
  | 0, _, _, _, _, _, _, _, _, _, _, _ => none
  | k + 1, x0, x23, x24, x25, x413000, x413001, x413002, x413003, x413004, x413005, x413006 => if x25 < x24 then (if 0 ≤ x25 then (if x25 < (x23.length : Int) then ((hinterlandref14_within.f (rd x23 x25) (-1) 15).bind fun t415 => (if t415 = true then (if (rd x23 x25) = (-1) then (hinterlandref14_Validate.j1 k x0 x23 x24 x25 false x413000 x413001 x413002 x413003 x413004 x413005 x413006) else (if x25 < (x413000.length : Int) then (if 0 ≤ (rd x413000 x25) then (if (rd x413000 x25) < (x0.length : Int) then (hinterlandref14_Validate.j1 k x0 x23 x24 x25 (((rd_T54 x0 (rd x413000 x25)).f7) == 0) x413000 x413001 x413002 x413003 x413004 x413005 x413006) else (none)) else (none)) else (none))) else (hinterlandref14_Validate.j1 k x0 x23 x24 x25 true x413000 x413001 x413002 x413003 x413004 x413005 x413006))) else (none)) else (none)) else ((hinterlandref14_within.f x413002 0 100000).bind fun t418 => (if t418 = true then ((hinterlandref14_within.f x413003 0 100000).bind fun t419 => (if t419 = true then ((hinterlandref14_within.f x413004 0 1000).bind fun t420 => (if t420 = true then ((hinterlandref14_within.f x413005 0 1000000).bind fun t421 => (if t421 = true then ((hinterlandref09_Validate.f k x413006).bind fun t422 => (hinterlandref14_Validate.j2 k (t422 != 0))) else (hinterlandref14_Validate.j2 k true))) else (hinterlandref14_Validate.j2 k true))) else (hinterlandref14_Validate.j2 k true))) else (hinterlandref14_Validate.j2 k true)))
def hinterlandref14_Validate.j1 : Nat → List (S54) → List Int → Int → Int → Bool → List Int → List Int → Int → Int → Int → Int → List (S69) → Option (Int)
  | 0, _, _, _, _, _, _, _, _, _, _, _, _ => none
  | k + 1, x0, x23, x24, x25, x48, x413000, x413001, x413002, x413003, x413004, x413005, x413006 => if x48 = true then (some 1) else (hinterlandref14_Validate.l0 k x0 x23 x24 (wrap64 (x25 + 1)) x413000 x413001 x413002 x413003 x413004 x413005 x413006)
def hinterlandref14_Validate.j2 : Nat → Bool → Option (Int)
  | 0, _ => none
  | k + 1, x77 => if x77 = true then (some 1) else (some 0)
end
def hinterlandref14_Validate.f (k : Nat) (l0 : List (S54)) (l1_0 : List Int) (l1_1 : List Int) (a1_2 : Int) (a1_3 : Int) (a1_4 : Int) (a1_5 : Int) (l1_6 : List (S69)) : Option (Int) := (hinterlandref14_coupled.f k l0 l1_0).bind fun t413 => (if t413 = 0 then (if (l1_1.length : Int) = (l1_0.length : Int) then (hinterlandref14_Validate.l0 k l0 l1_1 (l1_1.length : Int) 0 l1_0 l1_1 a1_2 a1_3 a1_4 a1_5 l1_6) else (some 1)) else (some t413))
theorem hinterlandref14_Validate.mono_l : ∀ k, (∀ y0 y1 y2 y3 y4 y5 y6 y7 y8 y9 y10, LeO (hinterlandref14_Validate.l0 k y0 y1 y2 y3 y4 y5 y6 y7 y8 y9 y10) (hinterlandref14_Validate.l0 (k + 1) y0 y1 y2 y3 y4 y5 y6 y7 y8 y9 y10)) ∧ (∀ y0 y1 y2 y3 y4 y5 y6 y7 y8 y9 y10 y11, LeO (hinterlandref14_Validate.j1 k y0 y1 y2 y3 y4 y5 y6 y7 y8 y9 y10 y11) (hinterlandref14_Validate.j1 (k + 1) y0 y1 y2 y3 y4 y5 y6 y7 y8 y9 y10 y11)) ∧ (∀ y0, LeO (hinterlandref14_Validate.j2 k y0) (hinterlandref14_Validate.j2 (k + 1) y0))
  | 0 => ⟨fun _ _ _ _ _ _ _ _ _ _ _ r h => by simp [hinterlandref14_Validate.l0] at h, fun _ _ _ _ _ _ _ _ _ _ _ _ r h => by simp [hinterlandref14_Validate.j1] at h, fun _ r h => by simp [hinterlandref14_Validate.j2] at h⟩
  | k + 1 => by
    obtain ⟨ih0, ih1, ih2⟩ := hinterlandref14_Validate.mono_l k
    refine ⟨?_, ?_, ?_⟩
    · intro y0 y1 y2 y3 y4 y5 y6 y7 y8 y9 y10
      unfold hinterlandref14_Validate.l0
      repeat' first
      | (with_reducible first | exact ih0 _ _ _ _ _ _ _ _ _ _ _ | exact ih1 _ _ _ _ _ _ _ _ _ _ _ _ | exact ih2 _ | exact hinterlandref09_Validate.mono _ _ | exact hinterlandref14_coupled.mono _ _ _ | exact LeO.refl _ | exact LeO.none _ | refine LeO.ite ?_ ?_ | refine LeO.bind ?_ (fun _ => ?_))
      | exact ih0 _ _ _ _ _ _ _ _ _ _ _
      | exact ih1 _ _ _ _ _ _ _ _ _ _ _ _
      | exact ih2 _
      | exact hinterlandref09_Validate.mono _ _
      | exact hinterlandref14_coupled.mono _ _ _
      | exact LeO.none _
      | refine LeO.ite ?_ ?_
      | refine LeO.bind ?_ (fun _ => ?_)
    · intro y0 y1 y2 y3 y4 y5 y6 y7 y8 y9 y10 y11
      unfold hinterlandref14_Validate.j1
      repeat' first
      | (with_reducible first | exact ih0 _ _ _ _ _ _ _ _ _ _ _ | exact ih1 _ _ _ _ _ _ _ _ _ _ _ _ | exact ih2 _ | exact hinterlandref09_Validate.mono _ _ | exact hinterlandref14_coupled.mono _ _ _ | exact LeO.refl _ | exact LeO.none _ | refine LeO.ite ?_ ?_ | refine LeO.bind ?_ (fun _ => ?_))
      | exact ih0 _ _ _ _ _ _ _ _ _ _ _
      | exact ih1 _ _ _ _ _ _ _ _ _ _ _ _
      | exact ih2 _
      | exact hinterlandref09_Validate.mono _ _
      | exact hinterlandref14_coupled.mono _ _ _
      | exact LeO.none _
      | refine LeO.ite ?_ ?_
      | refine LeO.bind ?_ (fun _ => ?_)
    · intro y0
      unfold hinterlandref14_Validate.j2
      repeat' first
      | (with_reducible first | exact ih0 _ _ _ _ _ _ _ _ _ _ _ | exact ih1 _ _ _ _ _ _ _ _ _ _ _ _ | exact ih2 _ | exact hinterlandref09_Validate.mono _ _ | exact hinterlandref14_coupled.mono _ _ _ | exact LeO.refl _ | exact LeO.none _ | refine LeO.ite ?_ ?_ | refine LeO.bind ?_ (fun _ => ?_))
      | exact ih0 _ _ _ _ _ _ _ _ _ _ _
      | exact ih1 _ _ _ _ _ _ _ _ _ _ _ _
      | exact ih2 _
      | exact hinterlandref09_Validate.mono _ _
      | exact hinterlandref14_coupled.mono _ _ _
      | exact LeO.none _
      | refine LeO.ite ?_ ?_
      | refine LeO.bind ?_ (fun _ => ?_)
theorem hinterlandref14_Validate.mono : ∀ a0 a1 a2 a3 a4 a5 a6 a7 k, LeO (hinterlandref14_Validate.f k a0 a1 a2 a3 a4 a5 a6 a7) (hinterlandref14_Validate.f (k + 1) a0 a1 a2 a3 a4 a5 a6 a7) := by
  intro a0 a1 a2 a3 a4 a5 a6 a7 k
  obtain ⟨ih0, ih1, ih2⟩ := hinterlandref14_Validate.mono_l k
  unfold hinterlandref14_Validate.f
  repeat' first
      | (with_reducible first | exact ih0 _ _ _ _ _ _ _ _ _ _ _ | exact ih1 _ _ _ _ _ _ _ _ _ _ _ _ | exact ih2 _ | exact hinterlandref09_Validate.mono _ _ | exact hinterlandref14_coupled.mono _ _ _ | exact LeO.refl _ | exact LeO.none _ | refine LeO.ite ?_ ?_ | refine LeO.bind ?_ (fun _ => ?_))
      | exact ih0 _ _ _ _ _ _ _ _ _ _ _
      | exact ih1 _ _ _ _ _ _ _ _ _ _ _ _
      | exact ih2 _
      | exact hinterlandref09_Validate.mono _ _
      | exact hinterlandref14_coupled.mono _ _ _
      | exact LeO.none _
      | refine LeO.ite ?_ ?_
      | refine LeO.bind ?_ (fun _ => ?_)
set_option maxHeartbeats 8000000 in
set_option maxRecDepth 100000 in
theorem hinterlandref14_Validate.calls (k : Nat) (A0 : Option Addr) (c0 : Nat) (l0 : List (S54)) (A1_0 : Option Addr) (c1_0 : Nat) (l1_0 : List Int) (A1_1 : Option Addr) (c1_1 : Nat) (l1_1 : List Int) (a1_2 : Int) (a1_3 : Int) (a1_4 : Int) (a1_5 : Int) (A1_6 : Option Addr) (c1_6 : Nat) (l1_6 : List (S69)) (r : Int) (w : World) (hr0 : Kd.C k54 w A0 l0.length l0) (hc0 : l0.length ≤ c0) (hr1_0 : Kd.C (Kd.int .i64) w A1_0 l1_0.length l1_0) (hc1_0 : l1_0.length ≤ c1_0) (hr1_1 : Kd.C (Kd.int .i64) w A1_1 l1_1.length l1_1) (hc1_1 : l1_1.length ≤ c1_1) (hr1_6 : Kd.C k69 w A1_6 l1_6.length l1_6) (hc1_6 : l1_6.length ≤ c1_6) (h : hinterlandref14_Validate.f k l0 l1_0 l1_1 a1_2 a1_3 a1_4 a1_5 l1_6 = some r) :
    Calls Try.prog 26 #[.slice A0 l0.length c0, .agg #[.slice A1_0 l1_0.length c1_0, .slice A1_1 l1_1.length c1_1, .int .i64 a1_2, .int .i64 a1_3, .int .i64 a1_4, .int .i64 a1_5, .slice A1_6 l1_6.length c1_6]] w fun e w' => e = .returned (.int .i64 r) ∧ Below w.heap.size w w' := by
 have hu27 := Try.underlying27
 have HR0 := Aside0.mk hr0
 have HC0 := Aside0.mk hc0
 clear hr0 hc0
 have HR1_0 := Aside0.mk hr1_0
 have HC1_0 := Aside0.mk hc1_0
 clear hr1_0 hc1_0
 have HR1_1 := Aside0.mk hr1_1
 have HC1_1 := Aside0.mk hc1_1
 clear hr1_1 hc1_1
 have HR1_6 := Aside0.mk hr1_6
 have HC1_6 := Aside0.mk hc1_6
 clear hr1_6 hc1_6
 have HB := Aside0.mk (Below.refl w.heap.size w)
 have H : ((hinterlandref14_coupled.f k l0 l1_0).bind fun t413 => (if t413 = 0 then (if (l1_1.length : Int) = (l1_0.length : Int) then (hinterlandref14_Validate.l0 k l0 l1_1 (l1_1.length : Int) 0 l1_0 l1_1 a1_2 a1_3 a1_4 a1_5 l1_6) else (some 1)) else (some t413))) = some r := h
 clear h
 replace H := Option.bind_eq_some_iff.mp H
 obtain ⟨t413, A30, H⟩ := H
 replace H : (if t413 = 0 then (if (l1_1.length : Int) = (l1_0.length : Int) then (hinterlandref14_Validate.l0 k l0 l1_1 (l1_1.length : Int) 0 l1_0 l1_1 a1_2 a1_3 a1_4 a1_5 l1_6) else (some 1)) else (some t413)) = some r := H
 have A3 := Aside0.mk A30
 clear A30
 by_cases c4 : t413 = 0
 ·rw [if_pos c4] at H
  have c4b0 : (t413 == 0) = true := beq_iff_eq.mpr c4
  have c4b1 : (t413 != 0) = false := bne_eq_false_iff_eq.mpr c4
  clear c4
  by_cases c5 : (l1_1.length : Int) = (l1_0.length : Int)
  ·rw [if_pos c5] at H
   have c5b0 : ((l1_1.length : Int) == (l1_0.length : Int)) = true := beq_iff_eq.mpr c5
   have c5b1 : ((l1_1.length : Int) != (l1_0.length : Int)) = false := bne_eq_false_iff_eq.mpr c5
   have c5b2 : (l1_1.length == l1_0.length) = true := by first | simpa using c5 | (simp at c5 ⊢; omega)
   clear c5
   have H' := Aside0.mk H
   clear H
   go_enter Try.func26, Try.ntmps26
   go_wp2_with (first | ((with_reducible refine gate_dst (N := 3) rfl ?_); refine box_event ?hg (N := 3) ?hd (cs := #[.slice A1_0 l1_0.length c1_0, .slice A1_1 l1_1.length c1_1, .int .i64 a1_2, .int .i64 a1_3, .int .i64 a1_4, .int .i64 a1_5, .slice A1_6 l1_6.length c1_6]) (t := 27) ?hr ?_; (case hd => rfl); (case hg => rfl); (case hr => first | (go_simp; done) | (go_simp; rfl)); intro gb412 hg w6 hbox hb; have BK412 := Aside0.mk (hbox); have GW412 := Aside0.mk ((dS_ hg (dL_ HB) : w.heap.size ≤ gb412)); have GE412 := Aside0.mk ((dS_ hg (dL_ HB) : w.heap.size ≤ gb412)); replace HB := Aside0.mk (below_step (dL_ HB) hb); clear hb hbox hg; obtain ⟨hcz7_0, hcz7_1, hcz7_2, hcz7_3, hcz7_4, hcz7_5, hcz7_6, hfz7_0, hfz7_1, hfz7_2, hfz7_3, hfz7_4, hfz7_5, hfz7_6⟩ := cs7_ BK412.out) | ((with_reducible refine gate_callee (f := 40) rfl ?_); refine goesL_ (some 11) rfl rfl Try.func40 (by kernel_rfl) rfl #[.slice A0 l0.length c0, .slice A1_0 l1_0.length c1_0] rfl tA_ ?_; (with_reducible refine (hinterlandref14_coupled.calls k _ _ l0 _ _ l1_0 t413 _ ?side1 ?side2 ?side3 ?side4 A3.out).mono ?_); (case side1 => exact dC_ HR0 HB); (case side2 => exact HC0.out); (case side3 => exact dC_ HR1_0 HB); (case side4 => exact HC1_0.out); rintro e w8 ⟨rfl, hb⟩; refine ⟨_, rfl, ?_⟩; replace BK412 := Aside0.mk (blk_below (g := gb412) (o := .cells #[.slice A1_0 l1_0.length c1_0, .slice A1_1 l1_1.length c1_1, .int .i64 a1_2, .int .i64 a1_3, .int .i64 a1_4, .int .i64 a1_5, .slice A1_6 l1_6.length c1_6] 27 (0, 0)) (dB_ BK412) hb); replace HB := Aside0.mk (below_step (dL1_ HB GE412) hb); obtain ⟨hcz9_0, hcz9_1, hcz9_2, hcz9_3, hcz9_4, hcz9_5, hcz9_6, hfz9_0, hfz9_1, hfz9_2, hfz9_3, hfz9_4, hfz9_5, hfz9_6⟩ := cs7_ BK412.out))
   go_loopg [25] k (fun kq v25 w' => ∃ (x25_1 : Int), v25 = .int .i64 x25_1 ∧ Aside0 (hinterlandref14_Validate.l0 kq l0 l1_1 (l1_1.length : Int) x25_1 l1_0 l1_1 a1_2 a1_3 a1_4 a1_5 l1_6 = some r) ∧ Aside0 (kq ≤ k) ∧ Aside0 (w'.heap[gb412]? = some (.cells #[(.slice A1_0 l1_0.length c1_0), (.slice A1_1 l1_1.length c1_1), .int .i64 a1_2, .int .i64 a1_3, .int .i64 a1_4, .int .i64 a1_5, (.slice A1_6 l1_6.length c1_6)] 27 (0, 0))) ∧ Aside0 (Below w.heap.size w w'))
   case atStart => exact ⟨(0), tS_, H', ⟨Nat.le_refl _⟩, ⟨dB_ BK412⟩, ⟨dL1_ HB GE412⟩⟩
   case round =>
    clear H'
    try clear c4
    try clear c4b0
    try clear c4b1
    try clear c5
    try clear c5b0
    try clear c5b1
    try clear c5b2
    try clear hcz7_0
    try clear hcz7_1
    try clear hcz7_2
    try clear hcz7_3
    try clear hcz7_4
    try clear hcz7_5
    try clear hcz7_6
    try clear hcz9_0
    try clear hcz9_1
    try clear hcz9_2
    try clear hcz9_3
    try clear hcz9_4
    try clear hcz9_5
    try clear hcz9_6
    try clear hfz7_0
    try clear hfz7_1
    try clear hfz7_2
    try clear hfz7_3
    try clear hfz7_4
    try clear hfz7_5
    try clear hfz7_6
    try clear hfz9_0
    try clear hfz9_1
    try clear hfz9_2
    try clear hfz9_3
    try clear hfz9_4
    try clear hfz9_5
    try clear hfz9_6
    obtain ⟨x25_1, rfl, HA, HK1, BK412, HB⟩ := hrel
    cases gk with
    | zero => exact absurd HA.out (by simp [hinterlandref14_Validate.l0])
    | succ k1 =>
     have H := HA.out
     clear HA
     simp only [hinterlandref14_Validate.l0] at H
     by_cases c10 : x25_1 < (l1_1.length : Int)
     ·rw [if_pos c10] at H
      have c10b0 : decide (x25_1 < (l1_1.length : Int)) = true := decide_eq_true c10
      clear c10
      by_cases c11 : 0 ≤ x25_1
      ·rw [if_pos c11] at H
       have c11b0 : decide (0 ≤ x25_1) = true := decide_eq_true c11
       clear c11
       by_cases c12 : x25_1 < (l1_1.length : Int)
       ·rw [if_pos c12] at H
        have c12b0 : decide (x25_1 < (l1_1.length : Int)) = true := decide_eq_true c12
        clear c12
        have HC13 := Aside0.mk H
        clear H
        have p414 : 0 ≤ (x25_1 : Int) := of_decide_eq_true tW_
        have q414 : x25_1 < (l1_1.length : Int) := of_decide_eq_true tW_
        obtain ⟨ad414, e414, hx414_0⟩ := Kd.at_int HR1_1.out x25_1 p414 q414
        cases e414
        replace hx414_0 := bc_ HB hx414_0
        replace p414 := eq_true p414
        replace q414 := eq_true q414
        go_upto_region 9 with (fail)
        go_cut [48] (fun v48 wc => ∃ (kq : Nat) (x48_12 : Bool), v48 = .bool x48_12 ∧ Aside0 (hinterlandref14_Validate.j1 kq l0 l1_1 (l1_1.length : Int) x25_1 x48_12 l1_0 l1_1 a1_2 a1_3 a1_4 a1_5 l1_6 = some r) ∧ Aside0 (kq ≤ k1) ∧ Aside0 (wc.heap[gb412]? = some (.cells #[(.slice A1_0 l1_0.length c1_0), (.slice (some ad414) l1_1.length c1_1), .int .i64 a1_2, .int .i64 a1_3, .int .i64 a1_4, .int .i64 a1_5, (.slice A1_6 l1_6.length c1_6)] 27 (0, 0))) ∧ Aside0 (Below w.heap.size w wc))
        case first =>
         have H := HC13.out
         clear HC13
         replace H := Option.bind_eq_some_iff.mp H
         obtain ⟨t415, A140, H⟩ := H
         replace H : (if t415 = true then (if (rd l1_1 x25_1) = (-1) then (hinterlandref14_Validate.j1 k1 l0 l1_1 (l1_1.length : Int) x25_1 false l1_0 l1_1 a1_2 a1_3 a1_4 a1_5 l1_6) else (if x25_1 < (l1_0.length : Int) then (if 0 ≤ (rd l1_0 x25_1) then (if (rd l1_0 x25_1) < (l0.length : Int) then (hinterlandref14_Validate.j1 k1 l0 l1_1 (l1_1.length : Int) x25_1 (((rd_T54 l0 (rd l1_0 x25_1)).f7) == 0) l1_0 l1_1 a1_2 a1_3 a1_4 a1_5 l1_6) else (none)) else (none)) else (none))) else (hinterlandref14_Validate.j1 k1 l0 l1_1 (l1_1.length : Int) x25_1 true l1_0 l1_1 a1_2 a1_3 a1_4 a1_5 l1_6)) = some r := H
         have A14 := Aside0.mk A140
         clear A140
         by_cases c15 : t415 = true
         ·subst c15
          have H1 : (if (rd l1_1 x25_1) = (-1) then (hinterlandref14_Validate.j1 k1 l0 l1_1 (l1_1.length : Int) x25_1 false l1_0 l1_1 a1_2 a1_3 a1_4 a1_5 l1_6) else (if x25_1 < (l1_0.length : Int) then (if 0 ≤ (rd l1_0 x25_1) then (if (rd l1_0 x25_1) < (l0.length : Int) then (hinterlandref14_Validate.j1 k1 l0 l1_1 (l1_1.length : Int) x25_1 (((rd_T54 l0 (rd l1_0 x25_1)).f7) == 0) l1_0 l1_1 a1_2 a1_3 a1_4 a1_5 l1_6) else (none)) else (none)) else (none))) = some r := by rw [if_pos rfl] at H; exact H
          clear H
          have H := H1
          clear H1
          by_cases c16 : (rd l1_1 x25_1) = (-1)
          ·rw [if_pos c16] at H
           have c16b0 : ((rd l1_1 x25_1) == (-1)) = true := beq_iff_eq.mpr c16
           have c16b1 : ((rd l1_1 x25_1) != (-1)) = false := bne_eq_false_iff_eq.mpr c16
           clear c16
           (first | rw [c16b0] | (simp only [i64_w, i32_w]; rw [c16b0]) | skip)
           have H' := Aside0.mk H
           clear H
           go_wp2_with (first | ((with_reducible refine gate_callee (f := 42) rfl ?_); refine goesL_ (some 31) rfl rfl Try.func42 (by kernel_rfl) rfl #[.int .i64 (rd l1_1 x25_1), .int .i64 (-1), .int .i64 15] rfl tA_ ?_; (with_reducible refine (hinterlandref14_within.calls (rd l1_1 x25_1) (-1) 15 true _ A14.out).mono ?_); rintro e w' ⟨rfl, ⟨nd, rfl⟩⟩; refine ⟨_, rfl, ?_⟩))
           go_meet
           case rel => exact ⟨_, (false), tS_, H', ⟨by have := HK1.out; first | omega | exact Nat.le_refl _⟩, ⟨dB_ BK412⟩, ⟨dL1_ HB GE412⟩⟩
          ·rw [if_neg c16] at H
           have c16b0 : ((rd l1_1 x25_1) == (-1)) = false := beq_eq_false_iff_ne.mpr c16
           have c16b1 : ((rd l1_1 x25_1) != (-1)) = true := bne_iff_ne.mpr c16
           (first | rw [c16b0] | (simp only [i64_w, i32_w]; rw [c16b0]) | skip)
           by_cases c17 : x25_1 < (l1_0.length : Int)
           ·rw [if_pos c17] at H
            have c17b0 : decide (x25_1 < (l1_0.length : Int)) = true := decide_eq_true c17
            clear c17
            by_cases c18 : 0 ≤ (rd l1_0 x25_1)
            ·rw [if_pos c18] at H
             have c18b0 : decide (0 ≤ (rd l1_0 x25_1)) = true := decide_eq_true c18
             clear c18
             by_cases c19 : (rd l1_0 x25_1) < (l0.length : Int)
             ·rw [if_pos c19] at H
              have c19b0 : decide ((rd l1_0 x25_1) < (l0.length : Int)) = true := decide_eq_true c19
              clear c19
              have H' := Aside0.mk H
              clear H
              go_wp2_with (first | ((with_reducible refine gate_callee (f := 42) rfl ?_); refine goesL_ (some 31) rfl rfl Try.func42 (by kernel_rfl) rfl #[.int .i64 (rd l1_1 x25_1), .int .i64 (-1), .int .i64 15] rfl tA_ ?_; (with_reducible refine (hinterlandref14_within.calls (rd l1_1 x25_1) (-1) 15 true _ A14.out).mono ?_); rintro e w' ⟨rfl, ⟨nd, rfl⟩⟩; refine ⟨_, rfl, ?_⟩; obtain ⟨hcz20_0, hcz20_1, hcz20_2, hcz20_3, hcz20_4, hcz20_5, hcz20_6, hfz20_0, hfz20_1, hfz20_2, hfz20_3, hfz20_4, hfz20_5, hfz20_6⟩ := cs7_ BK412.out; have p416 : 0 ≤ (x25_1 : Int) := of_decide_eq_true tW_; have q416 : x25_1 < (l1_0.length : Int) := of_decide_eq_true tW_; obtain ⟨ad416, e416, hx416_0⟩ := Kd.at_int HR1_0.out x25_1 p416 q416; cases e416; replace hx416_0 := bc_ HB hx416_0; replace p416 := eq_true p416; replace q416 := eq_true q416; have p417 : 0 ≤ ((rd l1_0 x25_1) : Int) := of_decide_eq_true tW_; have q417 : (rd l1_0 x25_1) < (l0.length : Int) := of_decide_eq_true tW_; obtain ⟨ad417, e417, hx417_0, hx417_1, hx417_2, hx417_3, hx417_4, hx417_5, hx417_6, hx417_7, hx417_8, hx417_9, hx417_10, hx417_11, hx417_12, hx417_13⟩ := at_T54 HR0.out (rd l1_0 x25_1) p417 q417; cases e417; replace hx417_0 := bc_ HB hx417_0; replace hx417_1 := bc_ HB hx417_1; replace hx417_2 := bc_ HB hx417_2; replace hx417_3 := bc_ HB hx417_3; replace hx417_4 := bc_ HB hx417_4; replace hx417_5 := bc_ HB hx417_5; replace hx417_6 := bc_ HB hx417_6; replace hx417_7 := bc_ HB hx417_7; replace hx417_8 := bc_ HB hx417_8; replace hx417_9 := bc_ HB hx417_9; replace hx417_10 := bc_ HB hx417_10; replace hx417_11 := bc_ HB hx417_11; replace hx417_12 := bc_ HB hx417_12; replace hx417_13 := bc_ HB hx417_13; replace p417 := eq_true p417; replace q417 := eq_true q417))
              go_meet
              case rel => exact ⟨_, ((((rd_T54 l0 (rd l1_0 x25_1)).f7) == 0)), tS_, H', ⟨by have := HK1.out; first | omega | exact Nat.le_refl _⟩, ⟨dB_ BK412⟩, ⟨dL1_ HB GE412⟩⟩
             ·rw [if_neg c19] at H
              exact absurd H (by simp)
            ·rw [if_neg c18] at H
             exact absurd H (by simp)
           ·rw [if_neg c17] at H
            exact absurd H (by simp)
         ·replace c15 := Bool.eq_false_iff.mpr c15
          subst c15
          have H1 : (hinterlandref14_Validate.j1 k1 l0 l1_1 (l1_1.length : Int) x25_1 true l1_0 l1_1 a1_2 a1_3 a1_4 a1_5 l1_6) = some r := by rw [if_neg (show ¬ (false = true) by decide)] at H; exact H
          clear H
          have H := H1
          clear H1
          have H' := Aside0.mk H
          clear H
          go_wp2_with (first | ((with_reducible refine gate_callee (f := 42) rfl ?_); refine goesL_ (some 31) rfl rfl Try.func42 (by kernel_rfl) rfl #[.int .i64 (rd l1_1 x25_1), .int .i64 (-1), .int .i64 15] rfl tA_ ?_; (with_reducible refine (hinterlandref14_within.calls (rd l1_1 x25_1) (-1) 15 false _ A14.out).mono ?_); rintro e w' ⟨rfl, ⟨nd, rfl⟩⟩; refine ⟨_, rfl, ?_⟩))
          go_meet
          case rel => exact ⟨_, (true), tS_, H', ⟨by have := HK1.out; first | omega | exact Nat.le_refl _⟩, ⟨dB_ BK412⟩, ⟨dL1_ HB GE412⟩⟩
        case rest =>
         clear HC13
         try clear c4
         try clear c4b0
         try clear c4b1
         try clear c5
         try clear c5b0
         try clear c5b1
         try clear c5b2
         try clear c10
         try clear c10b0
         try clear c11
         try clear c11b0
         try clear c12
         try clear c12b0
         try clear c16
         try clear c17
         try clear c18
         try clear c19
         try clear hcz7_0
         try clear hcz7_1
         try clear hcz7_2
         try clear hcz7_3
         try clear hcz7_4
         try clear hcz7_5
         try clear hcz7_6
         try clear hcz9_0
         try clear hcz9_1
         try clear hcz9_2
         try clear hcz9_3
         try clear hcz9_4
         try clear hcz9_5
         try clear hcz9_6
         try clear hfz7_0
         try clear hfz7_1
         try clear hfz7_2
         try clear hfz7_3
         try clear hfz7_4
         try clear hfz7_5
         try clear hfz7_6
         try clear hfz9_0
         try clear hfz9_1
         try clear hfz9_2
         try clear hfz9_3
         try clear hfz9_4
         try clear hfz9_5
         try clear hfz9_6
         try clear hx414_0
         try clear p414
         try clear q414
         obtain ⟨kq, x48_12, rfl, HA, HJ12, BK412, HB⟩ := hcut
         cases kq with
         | zero => exact absurd HA.out (by simp [hinterlandref14_Validate.j1])
         | succ kj12 =>
          have H := HA.out
          clear HA
          simp only [hinterlandref14_Validate.j1] at H
          by_cases c21 : x48_12 = true
          ·subst c21
           have H1 : (some 1) = some r := by rw [if_pos rfl] at H; exact H
           clear H
           have H := H1
           clear H1
           obtain rfl := Option.some.inj H
           go_wp2
           go_ret
           exact ⟨tE_, dL1_ HB GE412⟩
          ·replace c21 := Bool.eq_false_iff.mpr c21
           subst c21
           have H1 : (hinterlandref14_Validate.l0 kj12 l0 l1_1 (l1_1.length : Int) (wrap64 (x25_1 + 1)) l1_0 l1_1 a1_2 a1_3 a1_4 a1_5 l1_6) = some r := by rw [if_neg (show ¬ (false = true) by decide)] at H; exact H
           clear H
           have H := H1
           clear H1
           have H' := Aside0.mk H
           clear H
           go_wp2
           go_roundg kj12
           case measure => have := HK1.out; have := HJ12.out; omega
           case rel => exact ⟨(wrap64 (x25_1 + 1)), tS_, H', ⟨by have := HK1.out; have := HJ12.out; omega⟩, ⟨dB_ BK412⟩, ⟨dL1_ HB GE412⟩⟩
       ·rw [if_neg c12] at H
        exact absurd H (by simp)
      ·rw [if_neg c11] at H
       exact absurd H (by simp)
     ·rw [if_neg c10] at H
      have c10b0 : decide (x25_1 < (l1_1.length : Int)) = false := decide_eq_false c10
      clear c10
      have HC22 := Aside0.mk H
      clear H
      go_upto_region 12 with (fail)
      go_cut [77] (fun v77 wc => ∃ (kq : Nat) (x77_21 : Bool), v77 = .bool x77_21 ∧ Aside0 (hinterlandref14_Validate.j2 kq x77_21 = some r) ∧ Aside0 (kq ≤ k1) ∧ Aside0 (wc.heap[gb412]? = some (.cells #[(.slice A1_0 l1_0.length c1_0), (.slice A1_1 l1_1.length c1_1), .int .i64 a1_2, .int .i64 a1_3, .int .i64 a1_4, .int .i64 a1_5, (.slice A1_6 l1_6.length c1_6)] 27 (0, 0))) ∧ Aside0 (Below w.heap.size w wc))
      case first =>
       have H := HC22.out
       clear HC22
       replace H := Option.bind_eq_some_iff.mp H
       obtain ⟨t418, A230, H⟩ := H
       replace H : (if t418 = true then ((hinterlandref14_within.f a1_3 0 100000).bind fun t419 => (if t419 = true then ((hinterlandref14_within.f a1_4 0 1000).bind fun t420 => (if t420 = true then ((hinterlandref14_within.f a1_5 0 1000000).bind fun t421 => (if t421 = true then ((hinterlandref09_Validate.f k1 l1_6).bind fun t422 => (hinterlandref14_Validate.j2 k1 (t422 != 0))) else (hinterlandref14_Validate.j2 k1 true))) else (hinterlandref14_Validate.j2 k1 true))) else (hinterlandref14_Validate.j2 k1 true))) else (hinterlandref14_Validate.j2 k1 true)) = some r := H
       have A23 := Aside0.mk A230
       clear A230
       by_cases c24 : t418 = true
       ·subst c24
        have H1 : ((hinterlandref14_within.f a1_3 0 100000).bind fun t419 => (if t419 = true then ((hinterlandref14_within.f a1_4 0 1000).bind fun t420 => (if t420 = true then ((hinterlandref14_within.f a1_5 0 1000000).bind fun t421 => (if t421 = true then ((hinterlandref09_Validate.f k1 l1_6).bind fun t422 => (hinterlandref14_Validate.j2 k1 (t422 != 0))) else (hinterlandref14_Validate.j2 k1 true))) else (hinterlandref14_Validate.j2 k1 true))) else (hinterlandref14_Validate.j2 k1 true))) = some r := by rw [if_pos rfl] at H; exact H
        clear H
        have H := H1
        clear H1
        replace H := Option.bind_eq_some_iff.mp H
        obtain ⟨t419, A250, H⟩ := H
        replace H : (if t419 = true then ((hinterlandref14_within.f a1_4 0 1000).bind fun t420 => (if t420 = true then ((hinterlandref14_within.f a1_5 0 1000000).bind fun t421 => (if t421 = true then ((hinterlandref09_Validate.f k1 l1_6).bind fun t422 => (hinterlandref14_Validate.j2 k1 (t422 != 0))) else (hinterlandref14_Validate.j2 k1 true))) else (hinterlandref14_Validate.j2 k1 true))) else (hinterlandref14_Validate.j2 k1 true)) = some r := H
        have A25 := Aside0.mk A250
        clear A250
        by_cases c26 : t419 = true
        ·subst c26
         have H1 : ((hinterlandref14_within.f a1_4 0 1000).bind fun t420 => (if t420 = true then ((hinterlandref14_within.f a1_5 0 1000000).bind fun t421 => (if t421 = true then ((hinterlandref09_Validate.f k1 l1_6).bind fun t422 => (hinterlandref14_Validate.j2 k1 (t422 != 0))) else (hinterlandref14_Validate.j2 k1 true))) else (hinterlandref14_Validate.j2 k1 true))) = some r := by rw [if_pos rfl] at H; exact H
         clear H
         have H := H1
         clear H1
         replace H := Option.bind_eq_some_iff.mp H
         obtain ⟨t420, A270, H⟩ := H
         replace H : (if t420 = true then ((hinterlandref14_within.f a1_5 0 1000000).bind fun t421 => (if t421 = true then ((hinterlandref09_Validate.f k1 l1_6).bind fun t422 => (hinterlandref14_Validate.j2 k1 (t422 != 0))) else (hinterlandref14_Validate.j2 k1 true))) else (hinterlandref14_Validate.j2 k1 true)) = some r := H
         have A27 := Aside0.mk A270
         clear A270
         by_cases c28 : t420 = true
         ·subst c28
          have H1 : ((hinterlandref14_within.f a1_5 0 1000000).bind fun t421 => (if t421 = true then ((hinterlandref09_Validate.f k1 l1_6).bind fun t422 => (hinterlandref14_Validate.j2 k1 (t422 != 0))) else (hinterlandref14_Validate.j2 k1 true))) = some r := by rw [if_pos rfl] at H; exact H
          clear H
          have H := H1
          clear H1
          replace H := Option.bind_eq_some_iff.mp H
          obtain ⟨t421, A290, H⟩ := H
          replace H : (if t421 = true then ((hinterlandref09_Validate.f k1 l1_6).bind fun t422 => (hinterlandref14_Validate.j2 k1 (t422 != 0))) else (hinterlandref14_Validate.j2 k1 true)) = some r := H
          have A29 := Aside0.mk A290
          clear A290
          by_cases c30 : t421 = true
          ·subst c30
           have H1 : ((hinterlandref09_Validate.f k1 l1_6).bind fun t422 => (hinterlandref14_Validate.j2 k1 (t422 != 0))) = some r := by rw [if_pos rfl] at H; exact H
           clear H
           have H := H1
           clear H1
           replace H := Option.bind_eq_some_iff.mp H
           obtain ⟨t422, A310, H⟩ := H
           replace H : (hinterlandref14_Validate.j2 k1 (t422 != 0)) = some r := H
           have A31 := Aside0.mk A310
           clear A310
           have H' := Aside0.mk H
           clear H
           obtain ⟨hcz32_0, hcz32_1, hcz32_2, hcz32_3, hcz32_4, hcz32_5, hcz32_6, hfz32_0, hfz32_1, hfz32_2, hfz32_3, hfz32_4, hfz32_5, hfz32_6⟩ := cs7_ BK412.out
           go_wp2_with (first | ((with_reducible refine gate_callee (f := 42) rfl ?_); refine goesL_ (some 52) rfl rfl Try.func42 (by kernel_rfl) rfl #[.int .i64 a1_2, .int .i64 0, .int .i64 100000] rfl tA_ ?_; (with_reducible refine (hinterlandref14_within.calls a1_2 0 100000 true _ A23.out).mono ?_); rintro e w' ⟨rfl, ⟨nd, rfl⟩⟩; refine ⟨_, rfl, ?_⟩) | (go_at_call 42; (with_reducible refine (hinterlandref14_within.calls a1_3 0 100000 true _ A25.out).mono ?_); rintro e w' ⟨rfl, ⟨nd, rfl⟩⟩) | (go_at_call 42; (with_reducible refine (hinterlandref14_within.calls a1_4 0 1000 true _ A27.out).mono ?_); rintro e w' ⟨rfl, ⟨nd, rfl⟩⟩) | (go_at_call 42; (with_reducible refine (hinterlandref14_within.calls a1_5 0 1000000 true _ A29.out).mono ?_); rintro e w' ⟨rfl, ⟨nd, rfl⟩⟩) | (go_at_call 44; (with_reducible refine (hinterlandref09_Validate.calls k1 _ _ l1_6 t422 _ ?side1 ?side2 A31.out).mono ?_); (case side1 => repeat (first | exact (Kd.C_below HR1_6.out (dL1_ HB GE412)) | (with_reducible refine Kd.C_alloc ?_ _) | (with_reducible refine Kd.C_drewN ?_ _) | (with_reducible refine Kd.C_drew ?_))); (case side2 => exact HC1_6.out); rintro e w33 ⟨rfl, hb⟩; replace BK412 := Aside0.mk (blk_below (g := gb412) (o := .cells #[.slice A1_0 l1_0.length c1_0, .slice A1_1 l1_1.length c1_1, .int .i64 a1_2, .int .i64 a1_3, .int .i64 a1_4, .int .i64 a1_5, .slice A1_6 l1_6.length c1_6] 27 (0, 0)) (dB_ BK412) hb); replace HB := Aside0.mk (below_step (dL1_ HB GE412) hb)))
           go_meet
           case rel => exact ⟨_, ((t422 != 0)), tS_, H', ⟨by have := HK1.out; first | omega | exact Nat.le_refl _⟩, ⟨dB_ BK412⟩, ⟨dL1_ HB GE412⟩⟩
          ·replace c30 := Bool.eq_false_iff.mpr c30
           subst c30
           have H1 : (hinterlandref14_Validate.j2 k1 true) = some r := by rw [if_neg (show ¬ (false = true) by decide)] at H; exact H
           clear H
           have H := H1
           clear H1
           have H' := Aside0.mk H
           clear H
           obtain ⟨hcz34_0, hcz34_1, hcz34_2, hcz34_3, hcz34_4, hcz34_5, hcz34_6, hfz34_0, hfz34_1, hfz34_2, hfz34_3, hfz34_4, hfz34_5, hfz34_6⟩ := cs7_ BK412.out
           go_wp2_with (first | ((with_reducible refine gate_callee (f := 42) rfl ?_); refine goesL_ (some 52) rfl rfl Try.func42 (by kernel_rfl) rfl #[.int .i64 a1_2, .int .i64 0, .int .i64 100000] rfl tA_ ?_; (with_reducible refine (hinterlandref14_within.calls a1_2 0 100000 true _ A23.out).mono ?_); rintro e w' ⟨rfl, ⟨nd, rfl⟩⟩; refine ⟨_, rfl, ?_⟩) | (go_at_call 42; (with_reducible refine (hinterlandref14_within.calls a1_3 0 100000 true _ A25.out).mono ?_); rintro e w' ⟨rfl, ⟨nd, rfl⟩⟩) | (go_at_call 42; (with_reducible refine (hinterlandref14_within.calls a1_4 0 1000 true _ A27.out).mono ?_); rintro e w' ⟨rfl, ⟨nd, rfl⟩⟩) | (go_at_call 42; (with_reducible refine (hinterlandref14_within.calls a1_5 0 1000000 false _ A29.out).mono ?_); rintro e w' ⟨rfl, ⟨nd, rfl⟩⟩))
           go_meet
           case rel => exact ⟨_, (true), tS_, H', ⟨by have := HK1.out; first | omega | exact Nat.le_refl _⟩, ⟨dB_ BK412⟩, ⟨dL1_ HB GE412⟩⟩
         ·replace c28 := Bool.eq_false_iff.mpr c28
          subst c28
          have H1 : (hinterlandref14_Validate.j2 k1 true) = some r := by rw [if_neg (show ¬ (false = true) by decide)] at H; exact H
          clear H
          have H := H1
          clear H1
          have H' := Aside0.mk H
          clear H
          obtain ⟨hcz35_0, hcz35_1, hcz35_2, hcz35_3, hcz35_4, hcz35_5, hcz35_6, hfz35_0, hfz35_1, hfz35_2, hfz35_3, hfz35_4, hfz35_5, hfz35_6⟩ := cs7_ BK412.out
          go_wp2_with (first | ((with_reducible refine gate_callee (f := 42) rfl ?_); refine goesL_ (some 52) rfl rfl Try.func42 (by kernel_rfl) rfl #[.int .i64 a1_2, .int .i64 0, .int .i64 100000] rfl tA_ ?_; (with_reducible refine (hinterlandref14_within.calls a1_2 0 100000 true _ A23.out).mono ?_); rintro e w' ⟨rfl, ⟨nd, rfl⟩⟩; refine ⟨_, rfl, ?_⟩) | (go_at_call 42; (with_reducible refine (hinterlandref14_within.calls a1_3 0 100000 true _ A25.out).mono ?_); rintro e w' ⟨rfl, ⟨nd, rfl⟩⟩) | (go_at_call 42; (with_reducible refine (hinterlandref14_within.calls a1_4 0 1000 false _ A27.out).mono ?_); rintro e w' ⟨rfl, ⟨nd, rfl⟩⟩))
          go_meet
          case rel => exact ⟨_, (true), tS_, H', ⟨by have := HK1.out; first | omega | exact Nat.le_refl _⟩, ⟨dB_ BK412⟩, ⟨dL1_ HB GE412⟩⟩
        ·replace c26 := Bool.eq_false_iff.mpr c26
         subst c26
         have H1 : (hinterlandref14_Validate.j2 k1 true) = some r := by rw [if_neg (show ¬ (false = true) by decide)] at H; exact H
         clear H
         have H := H1
         clear H1
         have H' := Aside0.mk H
         clear H
         obtain ⟨hcz36_0, hcz36_1, hcz36_2, hcz36_3, hcz36_4, hcz36_5, hcz36_6, hfz36_0, hfz36_1, hfz36_2, hfz36_3, hfz36_4, hfz36_5, hfz36_6⟩ := cs7_ BK412.out
         go_wp2_with (first | ((with_reducible refine gate_callee (f := 42) rfl ?_); refine goesL_ (some 52) rfl rfl Try.func42 (by kernel_rfl) rfl #[.int .i64 a1_2, .int .i64 0, .int .i64 100000] rfl tA_ ?_; (with_reducible refine (hinterlandref14_within.calls a1_2 0 100000 true _ A23.out).mono ?_); rintro e w' ⟨rfl, ⟨nd, rfl⟩⟩; refine ⟨_, rfl, ?_⟩) | (go_at_call 42; (with_reducible refine (hinterlandref14_within.calls a1_3 0 100000 false _ A25.out).mono ?_); rintro e w' ⟨rfl, ⟨nd, rfl⟩⟩))
         go_meet
         case rel => exact ⟨_, (true), tS_, H', ⟨by have := HK1.out; first | omega | exact Nat.le_refl _⟩, ⟨dB_ BK412⟩, ⟨dL1_ HB GE412⟩⟩
       ·replace c24 := Bool.eq_false_iff.mpr c24
        subst c24
        have H1 : (hinterlandref14_Validate.j2 k1 true) = some r := by rw [if_neg (show ¬ (false = true) by decide)] at H; exact H
        clear H
        have H := H1
        clear H1
        have H' := Aside0.mk H
        clear H
        obtain ⟨hcz37_0, hcz37_1, hcz37_2, hcz37_3, hcz37_4, hcz37_5, hcz37_6, hfz37_0, hfz37_1, hfz37_2, hfz37_3, hfz37_4, hfz37_5, hfz37_6⟩ := cs7_ BK412.out
        go_wp2_with (first | ((with_reducible refine gate_callee (f := 42) rfl ?_); refine goesL_ (some 52) rfl rfl Try.func42 (by kernel_rfl) rfl #[.int .i64 a1_2, .int .i64 0, .int .i64 100000] rfl tA_ ?_; (with_reducible refine (hinterlandref14_within.calls a1_2 0 100000 false _ A23.out).mono ?_); rintro e w' ⟨rfl, ⟨nd, rfl⟩⟩; refine ⟨_, rfl, ?_⟩))
        go_meet
        case rel => exact ⟨_, (true), tS_, H', ⟨by have := HK1.out; first | omega | exact Nat.le_refl _⟩, ⟨dB_ BK412⟩, ⟨dL1_ HB GE412⟩⟩
      case rest =>
       clear HC22
       try clear c4
       try clear c4b0
       try clear c4b1
       try clear c5
       try clear c5b0
       try clear c5b1
       try clear c5b2
       try clear c10
       try clear c10b0
       try clear c11
       try clear c12
       try clear c16
       try clear c17
       try clear c18
       try clear c19
       try clear hcz7_0
       try clear hcz7_1
       try clear hcz7_2
       try clear hcz7_3
       try clear hcz7_4
       try clear hcz7_5
       try clear hcz7_6
       try clear hcz9_0
       try clear hcz9_1
       try clear hcz9_2
       try clear hcz9_3
       try clear hcz9_4
       try clear hcz9_5
       try clear hcz9_6
       try clear hfz7_0
       try clear hfz7_1
       try clear hfz7_2
       try clear hfz7_3
       try clear hfz7_4
       try clear hfz7_5
       try clear hfz7_6
       try clear hfz9_0
       try clear hfz9_1
       try clear hfz9_2
       try clear hfz9_3
       try clear hfz9_4
       try clear hfz9_5
       try clear hfz9_6
       obtain ⟨kq, x77_21, rfl, HA, HJ21, BK412, HB⟩ := hcut
       cases kq with
       | zero => exact absurd HA.out (by simp [hinterlandref14_Validate.j2])
       | succ kj21 =>
        have H := HA.out
        clear HA
        simp only [hinterlandref14_Validate.j2] at H
        by_cases c38 : x77_21 = true
        ·subst c38
         have H1 : (some 1) = some r := by rw [if_pos rfl] at H; exact H
         clear H
         have H := H1
         clear H1
         obtain rfl := Option.some.inj H
         go_wp2
         go_ret
         exact ⟨tE_, dL1_ HB GE412⟩
        ·replace c38 := Bool.eq_false_iff.mpr c38
         subst c38
         have H1 : (some 0) = some r := by rw [if_neg (show ¬ (false = true) by decide)] at H; exact H
         clear H
         have H := H1
         clear H1
         obtain rfl := Option.some.inj H
         go_wp2
         go_ret
         exact ⟨tE_, dL1_ HB GE412⟩
  ·rw [if_neg c5] at H
   have c5b0 : ((l1_1.length : Int) == (l1_0.length : Int)) = false := beq_eq_false_iff_ne.mpr c5
   have c5b1 : ((l1_1.length : Int) != (l1_0.length : Int)) = true := bne_iff_ne.mpr c5
   have c5b2 : (l1_1.length == l1_0.length) = false := by first | simpa using c5 | (simp at c5 ⊢; omega)
   obtain rfl := Option.some.inj H
   go_enter Try.func26, Try.ntmps26
   go_wp2_with (first | ((with_reducible refine gate_dst (N := 3) rfl ?_); refine box_event ?hg (N := 3) ?hd (cs := #[.slice A1_0 l1_0.length c1_0, .slice A1_1 l1_1.length c1_1, .int .i64 a1_2, .int .i64 a1_3, .int .i64 a1_4, .int .i64 a1_5, .slice A1_6 l1_6.length c1_6]) (t := 27) ?hr ?_; (case hd => rfl); (case hg => rfl); (case hr => first | (go_simp; done) | (go_simp; rfl)); intro gb412 hg w39 hbox hb; have BK412 := Aside0.mk (hbox); have GW412 := Aside0.mk ((dS_ hg (dL_ HB) : w.heap.size ≤ gb412)); have GE412 := Aside0.mk ((dS_ hg (dL_ HB) : w.heap.size ≤ gb412)); replace HB := Aside0.mk (below_step (dL_ HB) hb); clear hb hbox hg; obtain ⟨hcz40_0, hcz40_1, hcz40_2, hcz40_3, hcz40_4, hcz40_5, hcz40_6, hfz40_0, hfz40_1, hfz40_2, hfz40_3, hfz40_4, hfz40_5, hfz40_6⟩ := cs7_ BK412.out) | ((with_reducible refine gate_callee (f := 40) rfl ?_); refine goesL_ (some 11) rfl rfl Try.func40 (by kernel_rfl) rfl #[.slice A0 l0.length c0, .slice A1_0 l1_0.length c1_0] rfl tA_ ?_; (with_reducible refine (hinterlandref14_coupled.calls k _ _ l0 _ _ l1_0 t413 _ ?side1 ?side2 ?side3 ?side4 A3.out).mono ?_); (case side1 => exact dC_ HR0 HB); (case side2 => exact HC0.out); (case side3 => exact dC_ HR1_0 HB); (case side4 => exact HC1_0.out); rintro e w41 ⟨rfl, hb⟩; refine ⟨_, rfl, ?_⟩; replace BK412 := Aside0.mk (blk_below (g := gb412) (o := .cells #[.slice A1_0 l1_0.length c1_0, .slice A1_1 l1_1.length c1_1, .int .i64 a1_2, .int .i64 a1_3, .int .i64 a1_4, .int .i64 a1_5, .slice A1_6 l1_6.length c1_6] 27 (0, 0)) (dB_ BK412) hb); replace HB := Aside0.mk (below_step (dL1_ HB GE412) hb); obtain ⟨hcz42_0, hcz42_1, hcz42_2, hcz42_3, hcz42_4, hcz42_5, hcz42_6, hfz42_0, hfz42_1, hfz42_2, hfz42_3, hfz42_4, hfz42_5, hfz42_6⟩ := cs7_ BK412.out))
   go_ret
   exact ⟨tE_, dL1_ HB GE412⟩
 ·rw [if_neg c4] at H
  have c4b0 : (t413 == 0) = false := beq_eq_false_iff_ne.mpr c4
  have c4b1 : (t413 != 0) = true := bne_iff_ne.mpr c4
  obtain rfl := Option.some.inj H
  go_enter Try.func26, Try.ntmps26
  go_wp2_with (first | ((with_reducible refine gate_dst (N := 3) rfl ?_); refine box_event ?hg (N := 3) ?hd (cs := #[.slice A1_0 l1_0.length c1_0, .slice A1_1 l1_1.length c1_1, .int .i64 a1_2, .int .i64 a1_3, .int .i64 a1_4, .int .i64 a1_5, .slice A1_6 l1_6.length c1_6]) (t := 27) ?hr ?_; (case hd => rfl); (case hg => rfl); (case hr => first | (go_simp; done) | (go_simp; rfl)); intro gb412 hg w43 hbox hb; have BK412 := Aside0.mk (hbox); have GW412 := Aside0.mk ((dS_ hg (dL_ HB) : w.heap.size ≤ gb412)); have GE412 := Aside0.mk ((dS_ hg (dL_ HB) : w.heap.size ≤ gb412)); replace HB := Aside0.mk (below_step (dL_ HB) hb); clear hb hbox hg; obtain ⟨hcz44_0, hcz44_1, hcz44_2, hcz44_3, hcz44_4, hcz44_5, hcz44_6, hfz44_0, hfz44_1, hfz44_2, hfz44_3, hfz44_4, hfz44_5, hfz44_6⟩ := cs7_ BK412.out) | ((with_reducible refine gate_callee (f := 40) rfl ?_); refine goesL_ (some 11) rfl rfl Try.func40 (by kernel_rfl) rfl #[.slice A0 l0.length c0, .slice A1_0 l1_0.length c1_0] rfl tA_ ?_; (with_reducible refine (hinterlandref14_coupled.calls k _ _ l0 _ _ l1_0 t413 _ ?side1 ?side2 ?side3 ?side4 A3.out).mono ?_); (case side1 => exact dC_ HR0 HB); (case side2 => exact HC0.out); (case side3 => exact dC_ HR1_0 HB); (case side4 => exact HC1_0.out); rintro e w45 ⟨rfl, hb⟩; refine ⟨_, rfl, ?_⟩; replace BK412 := Aside0.mk (blk_below (g := gb412) (o := .cells #[.slice A1_0 l1_0.length c1_0, .slice A1_1 l1_1.length c1_1, .int .i64 a1_2, .int .i64 a1_3, .int .i64 a1_4, .int .i64 a1_5, .slice A1_6 l1_6.length c1_6] 27 (0, 0)) (dB_ BK412) hb); replace HB := Aside0.mk (below_step (dL1_ HB GE412) hb)))
  go_ret
  exact ⟨tE_, dL1_ HB GE412⟩

end Go.Proofs.Ytgnahbjpockdmaa.Q
namespace Go.Proofs.Ytgnahbjpockdmaa.Q
open Go.RowKit Go.Proofs.YtgnahbjpockdmaaPrs Go.Proofs.YtgnahbjpockdmaaOwn Go.Proofs.YtgnahbjpockdmaaW.PrintWords Go.Proofs.YtgnahbjpockdmaaW.PrintLast Go.Proofs.YtgnahbjpockdmaaW.PrintMore
attribute [local go_sem] max2_int min2_int max_two min_two max_three min_three max_four min_four   -- for this text's walks alone
set_option linter.unusedVariables false
set_option linter.unusedSimpArgs false

/-! ### fleet_trust: function 48 -/
def fleet_trust.f (a0_0 : ByteArray) (a0_1 : Int) (a0_2 : Int) (a0_3 : Int) (a0_4 : Int) (a0_5 : Int) (a0_6 : Int) (a0_7 : Int) (a0_8 : Int) (a0_9 : Int) (a0_10 : Int) (a0_11 : Int) (a0_12 : Int) (a0_13 : Bool) : Option (Int) := some a0_12
set_option maxHeartbeats 8000000 in
set_option maxRecDepth 100000 in
theorem fleet_trust.calls (a0_0 : ByteArray) (a0_1 : Int) (a0_2 : Int) (a0_3 : Int) (a0_4 : Int) (a0_5 : Int) (a0_6 : Int) (a0_7 : Int) (a0_8 : Int) (a0_9 : Int) (a0_10 : Int) (a0_11 : Int) (a0_12 : Int) (a0_13 : Bool) (r : Int) (w : World) (h : fleet_trust.f a0_0 a0_1 a0_2 a0_3 a0_4 a0_5 a0_6 a0_7 a0_8 a0_9 a0_10 a0_11 a0_12 a0_13 = some r) :
    Calls Try.prog 48 #[.agg #[.string a0_0, .int .i64 a0_1, .int .i64 a0_2, .int .i64 a0_3, .int .i64 a0_4, .int .i64 a0_5, .int .i64 a0_6, .int .i64 a0_7, .int .i64 a0_8, .int .i64 a0_9, .int .i64 a0_10, .int .i64 a0_11, .int .i64 a0_12, .bool a0_13]] w fun e w' => e = .returned (.int .i64 r) ∧ Below w.heap.size w w' := by
 have hu54 := Try.underlying54
 have HB := Aside0.mk (Below.refl w.heap.size w)
 have H : (some a0_12) = some r := h
 clear h
 obtain rfl := Option.some.inj H
 go_enter Try.func48, Try.ntmps48
 go_wp2_with (first | ((with_reducible refine gate_dst (N := 1) rfl ?_); refine box_event ?hg (N := 1) ?hd (cs := #[.string a0_0, .int .i64 a0_1, .int .i64 a0_2, .int .i64 a0_3, .int .i64 a0_4, .int .i64 a0_5, .int .i64 a0_6, .int .i64 a0_7, .int .i64 a0_8, .int .i64 a0_9, .int .i64 a0_10, .int .i64 a0_11, .int .i64 a0_12, .bool a0_13]) (t := 54) ?hr ?_; (case hd => rfl); (case hg => rfl); (case hr => first | (go_simp; done) | (go_simp; rfl)); intro gb472 hg w2 hbox hb; have BK472 := Aside0.mk (hbox); have GW472 := Aside0.mk ((dS_ hg (dL_ HB) : w.heap.size ≤ gb472)); have GE472 := Aside0.mk ((dS_ hg (dL_ HB) : w.heap.size ≤ gb472)); replace HB := Aside0.mk (below_step (dL_ HB) hb); clear hb hbox hg; obtain ⟨hcz3_0, hcz3_1, hcz3_2, hcz3_3, hcz3_4, hcz3_5, hcz3_6, hcz3_7, hcz3_8, hcz3_9, hcz3_10, hcz3_11, hcz3_12, hcz3_13, hfz3_0, hfz3_1, hfz3_2, hfz3_3, hfz3_4, hfz3_5, hfz3_6, hfz3_7, hfz3_8, hfz3_9, hfz3_10, hfz3_11, hfz3_12, hfz3_13⟩ := cs14_ BK472.out))
 go_ret
 exact ⟨tE_, dL1_ HB GE472⟩

/-! ### fleet_life: function 64 -/
def fleet_life.f (a0_0 : ByteArray) (a0_1 : Int) (a0_2 : Int) (a0_3 : Int) (a0_4 : Int) (a0_5 : Int) (a0_6 : Int) (a0_7 : Int) (a0_8 : Int) (a0_9 : Int) (a0_10 : Int) (a0_11 : Int) (a0_12 : Int) (a0_13 : Bool) : Option (Int) := some a0_11
set_option maxHeartbeats 8000000 in
set_option maxRecDepth 100000 in
theorem fleet_life.calls (a0_0 : ByteArray) (a0_1 : Int) (a0_2 : Int) (a0_3 : Int) (a0_4 : Int) (a0_5 : Int) (a0_6 : Int) (a0_7 : Int) (a0_8 : Int) (a0_9 : Int) (a0_10 : Int) (a0_11 : Int) (a0_12 : Int) (a0_13 : Bool) (r : Int) (w : World) (h : fleet_life.f a0_0 a0_1 a0_2 a0_3 a0_4 a0_5 a0_6 a0_7 a0_8 a0_9 a0_10 a0_11 a0_12 a0_13 = some r) :
    Calls Try.prog 64 #[.agg #[.string a0_0, .int .i64 a0_1, .int .i64 a0_2, .int .i64 a0_3, .int .i64 a0_4, .int .i64 a0_5, .int .i64 a0_6, .int .i64 a0_7, .int .i64 a0_8, .int .i64 a0_9, .int .i64 a0_10, .int .i64 a0_11, .int .i64 a0_12, .bool a0_13]] w fun e w' => e = .returned (.int .i64 r) ∧ Below w.heap.size w w' := by
 have hu54 := Try.underlying54
 have HB := Aside0.mk (Below.refl w.heap.size w)
 have H : (some a0_11) = some r := h
 clear h
 obtain rfl := Option.some.inj H
 go_enter Try.func64, Try.ntmps64
 go_wp2_with (first | ((with_reducible refine gate_dst (N := 1) rfl ?_); refine box_event ?hg (N := 1) ?hd (cs := #[.string a0_0, .int .i64 a0_1, .int .i64 a0_2, .int .i64 a0_3, .int .i64 a0_4, .int .i64 a0_5, .int .i64 a0_6, .int .i64 a0_7, .int .i64 a0_8, .int .i64 a0_9, .int .i64 a0_10, .int .i64 a0_11, .int .i64 a0_12, .bool a0_13]) (t := 54) ?hr ?_; (case hd => rfl); (case hg => rfl); (case hr => first | (go_simp; done) | (go_simp; rfl)); intro gb473 hg w2 hbox hb; have BK473 := Aside0.mk (hbox); have GW473 := Aside0.mk ((dS_ hg (dL_ HB) : w.heap.size ≤ gb473)); have GE473 := Aside0.mk ((dS_ hg (dL_ HB) : w.heap.size ≤ gb473)); replace HB := Aside0.mk (below_step (dL_ HB) hb); clear hb hbox hg; obtain ⟨hcz3_0, hcz3_1, hcz3_2, hcz3_3, hcz3_4, hcz3_5, hcz3_6, hcz3_7, hcz3_8, hcz3_9, hcz3_10, hcz3_11, hcz3_12, hcz3_13, hfz3_0, hfz3_1, hfz3_2, hfz3_3, hfz3_4, hfz3_5, hfz3_6, hfz3_7, hfz3_8, hfz3_9, hfz3_10, hfz3_11, hfz3_12, hfz3_13⟩ := cs14_ BK473.out))
 go_ret
 exact ⟨tE_, dL1_ HB GE473⟩

end Go.Proofs.Ytgnahbjpockdmaa.Q
