-- PRINTED by print.py (a twelfth state) out of the translation. Not trusted: Lean checks it.
import Derived.Test.YtchflcnegpnkkaaPrs
import Derived.Test.YtchflcnegpnkkaaQ0
import Derived.Test.YtchflcnegpnkkaaQ3
import Derived.Test.YtchflcnegpnkkaaQ5
import Derived.Test.YtchflcnegpnkkaaQ10
import Derived.Test.YtchflcnegpnkkaaQ14
import Derived.Test.YtchflcnegpnkkaaQ22
import Derived.Test.YtchflcnegpnkkaaQ29
namespace Go.Proofs.Ytchflcnegpnkkaa.Q
open Go.RowKit Go.Proofs.YtchflcnegpnkkaaPrs Go.Proofs.YtchflcnegpnkkaaOwn Go.Proofs.YtchflcnegpnkkaaW.PrintWords Go.Proofs.YtchflcnegpnkkaaW.PrintLast Go.Proofs.YtchflcnegpnkkaaW.PrintMore
attribute [local go_sem] max2_int min2_int max_two min_two max_three min_three max_four min_four   -- for this text's walks alone
set_option linter.unusedVariables false
set_option linter.unusedSimpArgs false

/-! ### hinterlandlaw02_LandLevelsFlat: function 14 -/
def hinterlandlaw02_LandLevelsFlat.j0 : Nat → Int → Int → Int → Int → Bool → Int → Int → List Int → Option (Bool)
  | 0, _, _, _, _, _, _, _, _ => none
  | k + 1, x1, x2, x8, x9, x41, x630000, x630001, x630002 => if x41 = true then (if x9 = 0 then (some false) else ((hinterlandlaw02_known.f k).bind fun t632 => (some t632))) else ((land_Slope.f k x630000 x630001 x630002 x1).bind fun bt633 => (if x9 = 0 then (if bt633.2.2 = 0 then (if bt633.1 = 0 then (if bt633.2.1 = x2 then (if x8 ≥ 0 then (if (Int.tmod x8 250) = 0 then ((hinterlandlaw02_known.f k).bind fun t636 => (some t636)) else (some false)) else (some false)) else (some false)) else (some false)) else (some false)) else (some false)))
def hinterlandlaw02_LandLevelsFlat.f (k : Nat) (a0_0 : Int) (a0_1 : Int) (l0_2 : List Int) (a1 : Int) (a2 : Int) : Option (Bool) := (hinterlandlaw02_large.f k a0_0 a0_1 l0_2 ([] : List (List Int))).bind fun t617 => (if t617 = true then ((hinterlandlaw02_known.f k).bind fun t618 => (some t618)) else ((land_Level.f k a0_0 a0_1 l0_2 (([a1] : List Int)) a2 ([] : List Int)).bind fun bt622 => ((land_Validate.f k a0_0 a0_1 l0_2).bind fun t630 => (if t630 = 0 then ((hinterlandref02_Is.f a0_0 a0_1 l0_2 a1).bind fun t631 => (if t631 = true then (if a2 < 0 then (hinterlandlaw02_LandLevelsFlat.j0 k a1 a2 bt622.2.2.2.1 bt622.2.2.2.2 true bt622.1 bt622.2.1 bt622.2.2.1) else (hinterlandlaw02_LandLevelsFlat.j0 k a1 a2 bt622.2.2.2.1 bt622.2.2.2.2 (decide (a2 > 15)) bt622.1 bt622.2.1 bt622.2.2.1)) else (hinterlandlaw02_LandLevelsFlat.j0 k a1 a2 bt622.2.2.2.1 bt622.2.2.2.2 true bt622.1 bt622.2.1 bt622.2.2.1))) else (hinterlandlaw02_LandLevelsFlat.j0 k a1 a2 bt622.2.2.2.1 bt622.2.2.2.2 true bt622.1 bt622.2.1 bt622.2.2.1)))))
theorem hinterlandlaw02_LandLevelsFlat.mono_l : ∀ k, (∀ y0 y1 y2 y3 y4 y5 y6 y7, LeO (hinterlandlaw02_LandLevelsFlat.j0 k y0 y1 y2 y3 y4 y5 y6 y7) (hinterlandlaw02_LandLevelsFlat.j0 (k + 1) y0 y1 y2 y3 y4 y5 y6 y7))
  | 0 => fun _ _ _ _ _ _ _ _ r h => by simp [hinterlandlaw02_LandLevelsFlat.j0] at h
  | k + 1 => by
    have ih0 := hinterlandlaw02_LandLevelsFlat.mono_l k
    · intro y0 y1 y2 y3 y4 y5 y6 y7
      unfold hinterlandlaw02_LandLevelsFlat.j0
      repeat' first
      | (with_reducible first | exact ih0 _ _ _ _ _ _ _ _ | exact hinterlandlaw02_known.mono _ | exact hinterlandlaw02_large.mono _ _ _ _ _ | exact land_Level.mono _ _ _ _ _ _ _ | exact land_Slope.mono _ _ _ _ _ | exact land_Validate.mono _ _ _ _ | exact LeO.refl _ | exact LeO.none _ | refine LeO.ite ?_ ?_ | refine LeO.bind ?_ (fun _ => ?_))
      | exact ih0 _ _ _ _ _ _ _ _
      | exact hinterlandlaw02_known.mono _
      | exact hinterlandlaw02_large.mono _ _ _ _ _
      | exact land_Level.mono _ _ _ _ _ _ _
      | exact land_Slope.mono _ _ _ _ _
      | exact land_Validate.mono _ _ _ _
      | exact LeO.none _
      | refine LeO.ite ?_ ?_
      | refine LeO.bind ?_ (fun _ => ?_)
theorem hinterlandlaw02_LandLevelsFlat.mono : ∀ a0 a1 a2 a3 a4 k, LeO (hinterlandlaw02_LandLevelsFlat.f k a0 a1 a2 a3 a4) (hinterlandlaw02_LandLevelsFlat.f (k + 1) a0 a1 a2 a3 a4) := by
  intro a0 a1 a2 a3 a4 k
  have ih0 := hinterlandlaw02_LandLevelsFlat.mono_l k
  unfold hinterlandlaw02_LandLevelsFlat.f
  repeat' first
      | (with_reducible first | exact ih0 _ _ _ _ _ _ _ _ | exact hinterlandlaw02_known.mono _ | exact hinterlandlaw02_large.mono _ _ _ _ _ | exact land_Level.mono _ _ _ _ _ _ _ | exact land_Slope.mono _ _ _ _ _ | exact land_Validate.mono _ _ _ _ | exact LeO.refl _ | exact LeO.none _ | refine LeO.ite ?_ ?_ | refine LeO.bind ?_ (fun _ => ?_))
      | exact ih0 _ _ _ _ _ _ _ _
      | exact hinterlandlaw02_known.mono _
      | exact hinterlandlaw02_large.mono _ _ _ _ _
      | exact land_Level.mono _ _ _ _ _ _ _
      | exact land_Slope.mono _ _ _ _ _
      | exact land_Validate.mono _ _ _ _
      | exact LeO.none _
      | refine LeO.ite ?_ ?_
      | refine LeO.bind ?_ (fun _ => ?_)
set_option maxHeartbeats 8000000 in
set_option maxRecDepth 100000 in
theorem hinterlandlaw02_LandLevelsFlat.calls (k : Nat) (a0_0 : Int) (a0_1 : Int) (A0_2 : Option Addr) (c0_2 : Nat) (l0_2 : List Int) (a1 : Int) (a2 : Int) (r : Bool) (w : World) (hr0_2 : Kd.C (Kd.int .i64) w A0_2 l0_2.length l0_2) (hc0_2 : l0_2.length ≤ c0_2) (h : hinterlandlaw02_LandLevelsFlat.f k a0_0 a0_1 l0_2 a1 a2 = some r) :
    Calls Try.prog 14 #[.agg #[.int .i64 a0_0, .int .i64 a0_1, .slice A0_2 l0_2.length c0_2], .int .i64 a1, .int .i64 a2] w fun e w' => e = .returned (.bool r) ∧ Below w.heap.size w w' := by
 have hu24 := Try.underlying24
 have HR0_2 := Aside0.mk hr0_2
 have HC0_2 := Aside0.mk hc0_2
 clear hr0_2 hc0_2
 have HB := Aside0.mk (Below.refl w.heap.size w)
 have H : ((hinterlandlaw02_large.f k a0_0 a0_1 l0_2 ([] : List (List Int))).bind fun t617 => (if t617 = true then ((hinterlandlaw02_known.f k).bind fun t618 => (some t618)) else ((land_Level.f k a0_0 a0_1 l0_2 (([a1] : List Int)) a2 ([] : List Int)).bind fun bt622 => ((land_Validate.f k a0_0 a0_1 l0_2).bind fun t630 => (if t630 = 0 then ((hinterlandref02_Is.f a0_0 a0_1 l0_2 a1).bind fun t631 => (if t631 = true then (if a2 < 0 then (hinterlandlaw02_LandLevelsFlat.j0 k a1 a2 bt622.2.2.2.1 bt622.2.2.2.2 true bt622.1 bt622.2.1 bt622.2.2.1) else (hinterlandlaw02_LandLevelsFlat.j0 k a1 a2 bt622.2.2.2.1 bt622.2.2.2.2 (decide (a2 > 15)) bt622.1 bt622.2.1 bt622.2.2.1)) else (hinterlandlaw02_LandLevelsFlat.j0 k a1 a2 bt622.2.2.2.1 bt622.2.2.2.2 true bt622.1 bt622.2.1 bt622.2.2.1))) else (hinterlandlaw02_LandLevelsFlat.j0 k a1 a2 bt622.2.2.2.1 bt622.2.2.2.2 true bt622.1 bt622.2.1 bt622.2.2.1)))))) = some r := h
 clear h
 replace H := Option.bind_eq_some_iff.mp H
 obtain ⟨t617, A40, H⟩ := H
 replace H : (if t617 = true then ((hinterlandlaw02_known.f k).bind fun t618 => (some t618)) else ((land_Level.f k a0_0 a0_1 l0_2 (([a1] : List Int)) a2 ([] : List Int)).bind fun bt622 => ((land_Validate.f k a0_0 a0_1 l0_2).bind fun t630 => (if t630 = 0 then ((hinterlandref02_Is.f a0_0 a0_1 l0_2 a1).bind fun t631 => (if t631 = true then (if a2 < 0 then (hinterlandlaw02_LandLevelsFlat.j0 k a1 a2 bt622.2.2.2.1 bt622.2.2.2.2 true bt622.1 bt622.2.1 bt622.2.2.1) else (hinterlandlaw02_LandLevelsFlat.j0 k a1 a2 bt622.2.2.2.1 bt622.2.2.2.2 (decide (a2 > 15)) bt622.1 bt622.2.1 bt622.2.2.1)) else (hinterlandlaw02_LandLevelsFlat.j0 k a1 a2 bt622.2.2.2.1 bt622.2.2.2.2 true bt622.1 bt622.2.1 bt622.2.2.1))) else (hinterlandlaw02_LandLevelsFlat.j0 k a1 a2 bt622.2.2.2.1 bt622.2.2.2.2 true bt622.1 bt622.2.1 bt622.2.2.1))))) = some r := H
 have A4 := Aside0.mk A40
 clear A40
 by_cases c5 : t617 = true
 ·subst c5
  have H1 : ((hinterlandlaw02_known.f k).bind fun t618 => (some t618)) = some r := by rw [if_pos rfl] at H; exact H
  clear H
  have H := H1
  clear H1
  replace H := Option.bind_eq_some_iff.mp H
  obtain ⟨t618, A60, H⟩ := H
  replace H : (some t618) = some r := H
  have A6 := Aside0.mk A60
  clear A60
  obtain rfl := Option.some.inj H
  go_enter Try.func14, Try.ntmps14
  go_wp2_with (first | ((with_reducible refine gate_dst (N := 3) rfl ?_); refine box_event ?hg (N := 3) ?hd (cs := #[.int .i64 a0_0, .int .i64 a0_1, .slice A0_2 l0_2.length c0_2]) (t := 24) ?hr ?_; (case hd => rfl); (case hg => rfl); (case hr => first | (go_simp; done) | (go_simp; rfl)); intro gb616 hg w7 hbox hb; have BK616 := Aside0.mk (hbox); have GW616 := Aside0.mk ((dS_ hg (dL_ HB) : w.heap.size ≤ gb616)); have GE616 := Aside0.mk ((dS_ hg (dL_ HB) : w.heap.size ≤ gb616)); replace HB := Aside0.mk (below_step (dL_ HB) hb); clear hb hbox hg; obtain ⟨hcz8_0, hcz8_1, hcz8_2, hfz8_0, hfz8_1, hfz8_2⟩ := cs3_ BK616.out) | ((with_reducible refine gate_callee (f := 15) rfl ?_); refine goesL_ (some 14) rfl rfl Try.func15 (by kernel_rfl) rfl #[.agg #[.int .i64 a0_0, .int .i64 a0_1, .slice A0_2 l0_2.length c0_2], .slice none 0 0] rfl tA_ ?_; (refine (hinterlandlaw02_large.calls k a0_0 a0_1 _ _ l0_2 _ _ ([] : List (List Int)) true _ ?side1 ?side2 ?side3 ?side4 A4.out).mono ?_); (case side1 => exact dC_ HR0_2 HB); (case side2 => exact HC0_2.out); (case side3 => exact Kd.C_nil _ _); (case side4 => exact Nat.le_refl _); rintro e w9 ⟨rfl, hb⟩; refine ⟨_, rfl, ?_⟩; replace BK616 := Aside0.mk (blk_below (g := gb616) (o := .cells #[.int .i64 a0_0, .int .i64 a0_1, .slice A0_2 l0_2.length c0_2] 24 (0, 0)) (dB_ BK616) hb); replace HB := Aside0.mk (below_step (dL1_ HB GE616) hb)) | ((with_reducible refine gate_callee (f := 16) rfl ?_); refine goesL_ (some 15) rfl rfl Try.func16 (by kernel_rfl) rfl #[] rfl tA_ ?_; (with_reducible refine (hinterlandlaw02_known.calls k  t618 _ A6.out).mono ?_); rintro e w10 ⟨rfl, hb⟩; refine ⟨_, rfl, ?_⟩; replace BK616 := Aside0.mk (blk_below (g := gb616) (o := .cells #[.int .i64 a0_0, .int .i64 a0_1, .slice A0_2 l0_2.length c0_2] 24 (0, 0)) (dB_ BK616) hb); replace HB := Aside0.mk (below_step (dL1_ HB GE616) hb)))
  go_ret
  exact ⟨tE_, dL1_ HB GE616⟩
 ·replace c5 := Bool.eq_false_iff.mpr c5
  subst c5
  have H1 : ((land_Level.f k a0_0 a0_1 l0_2 (([a1] : List Int)) a2 ([] : List Int)).bind fun bt622 => ((land_Validate.f k a0_0 a0_1 l0_2).bind fun t630 => (if t630 = 0 then ((hinterlandref02_Is.f a0_0 a0_1 l0_2 a1).bind fun t631 => (if t631 = true then (if a2 < 0 then (hinterlandlaw02_LandLevelsFlat.j0 k a1 a2 bt622.2.2.2.1 bt622.2.2.2.2 true bt622.1 bt622.2.1 bt622.2.2.1) else (hinterlandlaw02_LandLevelsFlat.j0 k a1 a2 bt622.2.2.2.1 bt622.2.2.2.2 (decide (a2 > 15)) bt622.1 bt622.2.1 bt622.2.2.1)) else (hinterlandlaw02_LandLevelsFlat.j0 k a1 a2 bt622.2.2.2.1 bt622.2.2.2.2 true bt622.1 bt622.2.1 bt622.2.2.1))) else (hinterlandlaw02_LandLevelsFlat.j0 k a1 a2 bt622.2.2.2.1 bt622.2.2.2.2 true bt622.1 bt622.2.1 bt622.2.2.1)))) = some r := by rw [if_neg (show ¬ (false = true) by decide)] at H; exact H
  clear H
  have H := H1
  clear H1
  obtain ⟨y619, hy619⟩ : ∃ y_ : List Int, y_ = (([a1] : List Int)) := ⟨_, rfl⟩
  replace H : ((land_Level.f k a0_0 a0_1 l0_2 y619 a2 ([] : List Int)).bind fun bt622 => ((land_Validate.f k a0_0 a0_1 l0_2).bind fun t630 => (if t630 = 0 then ((hinterlandref02_Is.f a0_0 a0_1 l0_2 a1).bind fun t631 => (if t631 = true then (if a2 < 0 then (hinterlandlaw02_LandLevelsFlat.j0 k a1 a2 bt622.2.2.2.1 bt622.2.2.2.2 true bt622.1 bt622.2.1 bt622.2.2.1) else (hinterlandlaw02_LandLevelsFlat.j0 k a1 a2 bt622.2.2.2.1 bt622.2.2.2.2 (decide (a2 > 15)) bt622.1 bt622.2.1 bt622.2.2.1)) else (hinterlandlaw02_LandLevelsFlat.j0 k a1 a2 bt622.2.2.2.1 bt622.2.2.2.2 true bt622.1 bt622.2.1 bt622.2.2.1))) else (hinterlandlaw02_LandLevelsFlat.j0 k a1 a2 bt622.2.2.2.1 bt622.2.2.2.2 true bt622.1 bt622.2.1 bt622.2.2.1)))) = some r := by first | (rw [hy619]; with_reducible exact H) | (have H2_ := (Option.bind_some _ _).symm.trans H; rw [hy619]; with_reducible exact H2_) | (have H2_ := (Option.bind_some _ _).symm.trans H; with_reducible exact H2_) | with_reducible exact H | (rw [hy619]; exact H) | exact H
  have Ny619 := Aside0.mk hy619
  clear hy619
  replace H := Option.bind_eq_some_iff.mp H
  obtain ⟨⟨t622, t623, t624, t627, t628⟩, A110, H⟩ := H
  replace H : ((land_Validate.f k a0_0 a0_1 l0_2).bind fun t630 => (if t630 = 0 then ((hinterlandref02_Is.f a0_0 a0_1 l0_2 a1).bind fun t631 => (if t631 = true then (if a2 < 0 then (hinterlandlaw02_LandLevelsFlat.j0 k a1 a2 t627 t628 true t622 t623 t624) else (hinterlandlaw02_LandLevelsFlat.j0 k a1 a2 t627 t628 (decide (a2 > 15)) t622 t623 t624)) else (hinterlandlaw02_LandLevelsFlat.j0 k a1 a2 t627 t628 true t622 t623 t624))) else (hinterlandlaw02_LandLevelsFlat.j0 k a1 a2 t627 t628 true t622 t623 t624))) = some r := H
  have A11 := Aside0.mk A110
  clear A110
  have HC12 := Aside0.mk H
  clear H
  go_enter Try.func14, Try.ntmps14
  go_upto_region 4 with (first | ((with_reducible refine gate_dst (N := 3) rfl ?_); refine box_event ?hg (N := 3) ?hd (cs := #[.int .i64 a0_0, .int .i64 a0_1, .slice A0_2 l0_2.length c0_2]) (t := 24) ?hr ?_; (case hd => rfl); (case hg => rfl); (case hr => first | (go_simp; done) | (go_simp; rfl)); intro gb616 hg w13 hbox hb; have BK616 := Aside0.mk (hbox); have GW616 := Aside0.mk ((dS_ hg (dL_ HB) : w.heap.size ≤ gb616)); have GE616 := Aside0.mk ((dS_ hg (dL_ HB) : w.heap.size ≤ gb616)); replace HB := Aside0.mk (below_step (dL_ HB) hb); clear hb hbox hg; obtain ⟨hcz14_0, hcz14_1, hcz14_2, hfz14_0, hfz14_1, hfz14_2⟩ := cs3_ BK616.out) | ((with_reducible refine gate_callee (f := 15) rfl ?_); refine goesL_ (some 14) rfl rfl Try.func15 (by kernel_rfl) rfl #[.agg #[.int .i64 a0_0, .int .i64 a0_1, .slice A0_2 l0_2.length c0_2], .slice none 0 0] rfl tA_ ?_; (refine (hinterlandlaw02_large.calls k a0_0 a0_1 _ _ l0_2 _ _ ([] : List (List Int)) false _ ?side1 ?side2 ?side3 ?side4 A4.out).mono ?_); (case side1 => exact dC_ HR0_2 HB); (case side2 => exact HC0_2.out); (case side3 => exact Kd.C_nil _ _); (case side4 => exact Nat.le_refl _); rintro e w15 ⟨rfl, hb⟩; refine ⟨_, rfl, ?_⟩; replace BK616 := Aside0.mk (blk_below (g := gb616) (o := .cells #[.int .i64 a0_0, .int .i64 a0_1, .slice A0_2 l0_2.length c0_2] 24 (0, 0)) (dB_ BK616) hb); replace HB := Aside0.mk (below_step (dL1_ HB GE616) hb); obtain ⟨hcz16_0, hcz16_1, hcz16_2, hfz16_0, hfz16_1, hfz16_2⟩ := cs3_ BK616.out) | ((with_reducible refine gate_dst (N := 19) rfl ?_); refine Kd.R_lit (Kd.int .i64) _ 3 ?hg (N := 19) ?hd (xs := ([a1] : List Int)) (inner := [.int .i64 a1]) (ok := fun _ => True) (okp := fun _ => True) ?hr ?hp (fun _ hk => hk) trivial (Below.refl _ _) (Nat.le_refl _) (by simp) ?_; (case hd => rfl); (case hg => rfl); (case hr => first | (go_simp; done) | (go_simp; rfl)); (case hp => exact (Reps.one (show Kd.M (Kd.int .i64) _ _ _ a1 [.int .i64 a1] from rfl) (Reps.none _ _))); intro v620 w17 ho18 hb hg_ hnew_; clear hg_ hnew_; (first | rw [← Ny619.out] at ho18 | (simp only [Int.reduceToNat] at ho18; rw [← Ny619.out] at ho18)); have HO621 := Aside0.mk (Kd.R_lower ho18 (below_size (dL1_ HB GE616))); replace BK616 := Aside0.mk (blk_below (g := gb616) (o := .cells #[.int .i64 a0_0, .int .i64 a0_1, .slice A0_2 l0_2.length c0_2] 24 (0, 0)) (dB_ BK616) hb); replace HB := Aside0.mk (below_step (dL1_ HB GE616) hb); clear hb ho18; obtain ⟨Ao19, co19, eo19⟩ := Kd.R_slice HO621.out; subst eo19) | ((with_reducible refine gate_callee (f := 23) rfl ?_); refine goesL_ (some 21) rfl rfl Try.func23 (by kernel_rfl) rfl #[.agg #[.int .i64 a0_0, .int .i64 a0_1, .slice A0_2 l0_2.length c0_2], .slice Ao19 y619.length co19, .int .i64 a2, .slice none 0 0] rfl tA_ ?_; (refine (land_Level.calls k a0_0 a0_1 _ _ l0_2 _ _ y619 a2 _ _ ([] : List Int) t622 t623 t624 t627 t628 _ ?side1 ?side2 ?side3 ?side4 ?side5 ?side6 A11.out).mono ?_); (case side1 => exact dC_ HR0_2 HB); (case side2 => exact HC0_2.out); (case side3 => repeat (first | exact (Kd.R_reads' HO621.out).2.2 | (with_reducible refine Kd.C_alloc ?_ _) | (with_reducible refine Kd.C_drewN ?_ _) | (with_reducible refine Kd.C_drew ?_))); (case side4 => exact (Kd.R_reads' HO621.out).2.1); (case side5 => exact Kd.C_nil _ _); (case side6 => exact Nat.le_refl _); rintro e w20 ⟨v625, rfl, ho0, hb⟩; refine ⟨_, rfl, ?_⟩; have HO626 := Aside0.mk (Kd.R_lower (Kd.R_new' ho0 (Kd.R_lt (dR_ HO621))) (below_size (dL1_ HB GE616))); replace HO621 := Aside0.mk (Kd.R_elder' (dR_ HO621) (Kd.R_base ho0) hb); replace BK616 := Aside0.mk (blk_below (g := gb616) (o := .cells #[.int .i64 a0_0, .int .i64 a0_1, .slice A0_2 l0_2.length c0_2] 24 (0, 0)) (dB_ BK616) hb); replace HB := Aside0.mk (below_step (dL1_ HB GE616) hb)) | ((with_reducible refine gate_dst (N := 7) rfl ?_); refine box_event ?hg (N := 7) ?hd (cs := #[.int .i64 0, .int .i64 0, .slice none 0 0]) (t := 24) ?hr ?_; (case hd => rfl); (case hg => rfl); (case hr => first | (go_simp; done) | (go_simp; rfl)); intro gb629 hg w21 hbox hb; replace HO621 := Aside0.mk (Kd.R_below (dR_ HO621) hb); replace HO626 := Aside0.mk (Kd.R_below (dR_ HO626) hb); have BK629 := Aside0.mk (hbox); have GW629 := Aside0.mk ((dS_ hg (dL1_ HB GE616) : w.heap.size ≤ gb629)); have GE629 := Aside0.mk ((dS_ hg (dL1_ HB GE616) : w.heap.size ≤ gb629)); replace HB := Aside0.mk (below_step (dL1_ HB GE616) hb); have NB616_629 := Aside0.mk ((by rw [hg]; exact Nat.ne_of_lt (blk_lt (dB_ BK616)) : gb616 ≠ gb629)); have NB629_616 := Aside0.mk ((by rw [hg]; exact Nat.ne_of_gt (blk_lt (dB_ BK616)) : gb629 ≠ gb616)); replace BK616 := Aside0.mk (blk_below (g := gb616) (o := .cells #[.int .i64 a0_0, .int .i64 a0_1, .slice A0_2 l0_2.length c0_2] 24 (0, 0)) (dB_ BK616) hb); clear hb hbox hg; have hnb22 := NB629_616.out; have hnc22 := NB616_629.out; obtain ⟨hcz23_0, hcz23_1, hcz23_2, hfz23_0, hfz23_1, hfz23_2⟩ := cs3_ BK629.out; obtain ⟨Ao24, co24, eo24⟩ := Kd.R_slice HO626.out; subst eo24))
  (try simp only [Act.put, List.setIfInBounds_toArray, List.set_cons_zero, List.set_cons_succ])
  go_cut [41] (fun v41 wc => ∃ (kq : Nat) (x41_11 : Bool), v41 = .bool x41_11 ∧ Aside0 (hinterlandlaw02_LandLevelsFlat.j0 kq a1 a2 t627 t628 x41_11 t622 t623 t624 = some r) ∧ Aside0 (kq ≤ k) ∧ Aside0 (Kd.R (Kd.int .i64) 3 wc w.heap.size (fun _ => True) (.slice Ao24 t624.length co24) t624) ∧ Aside0 (wc.heap[gb616]? = some (.cells #[.int .i64 a0_0, .int .i64 a0_1, (.slice A0_2 l0_2.length c0_2)] 24 (0, 0))) ∧ Aside0 (wc.heap[gb629]? = some (.cells #[.int .i64 t622, .int .i64 t623, (.slice Ao24 t624.length co24)] 24 (0, 0))) ∧ Aside0 (Below w.heap.size w wc))
  case first =>
   have H := HC12.out
   clear HC12
   replace H := Option.bind_eq_some_iff.mp H
   obtain ⟨t630, A250, H⟩ := H
   replace H : (if t630 = 0 then ((hinterlandref02_Is.f a0_0 a0_1 l0_2 a1).bind fun t631 => (if t631 = true then (if a2 < 0 then (hinterlandlaw02_LandLevelsFlat.j0 k a1 a2 t627 t628 true t622 t623 t624) else (hinterlandlaw02_LandLevelsFlat.j0 k a1 a2 t627 t628 (decide (a2 > 15)) t622 t623 t624)) else (hinterlandlaw02_LandLevelsFlat.j0 k a1 a2 t627 t628 true t622 t623 t624))) else (hinterlandlaw02_LandLevelsFlat.j0 k a1 a2 t627 t628 true t622 t623 t624)) = some r := H
   have A25 := Aside0.mk A250
   clear A250
   by_cases c26 : t630 = 0
   ·rw [if_pos c26] at H
    have c26b0 : (t630 == 0) = true := beq_iff_eq.mpr c26
    have c26b1 : (t630 != 0) = false := bne_eq_false_iff_eq.mpr c26
    clear c26
    (first | rw [c26b0] | (simp only [i64_w, i32_w]; rw [c26b0]) | skip)
    replace H := Option.bind_eq_some_iff.mp H
    obtain ⟨t631, A270, H⟩ := H
    replace H : (if t631 = true then (if a2 < 0 then (hinterlandlaw02_LandLevelsFlat.j0 k a1 a2 t627 t628 true t622 t623 t624) else (hinterlandlaw02_LandLevelsFlat.j0 k a1 a2 t627 t628 (decide (a2 > 15)) t622 t623 t624)) else (hinterlandlaw02_LandLevelsFlat.j0 k a1 a2 t627 t628 true t622 t623 t624)) = some r := H
    have A27 := Aside0.mk A270
    clear A270
    by_cases c28 : t631 = true
    ·subst c28
     have H1 : (if a2 < 0 then (hinterlandlaw02_LandLevelsFlat.j0 k a1 a2 t627 t628 true t622 t623 t624) else (hinterlandlaw02_LandLevelsFlat.j0 k a1 a2 t627 t628 (decide (a2 > 15)) t622 t623 t624)) = some r := by rw [if_pos rfl] at H; exact H
     clear H
     have H := H1
     clear H1
     by_cases c29 : a2 < 0
     ·rw [if_pos c29] at H
      have c29b0 : decide (a2 < 0) = true := decide_eq_true c29
      clear c29
      have H' := Aside0.mk H
      clear H
      have hnb30 := NB616_629.out
      have hnc30 := NB629_616.out
      obtain ⟨hcz31_0, hcz31_1, hcz31_2, hfz31_0, hfz31_1, hfz31_2⟩ := cs3_ BK616.out
      go_wp2_with (first | ((with_reducible refine gate_callee (f := 17) rfl ?_); refine goesL_ (some 26) rfl rfl Try.func17 (by kernel_rfl) rfl #[.agg #[.int .i64 a0_0, .int .i64 a0_1, .slice A0_2 l0_2.length c0_2]] rfl tA_ ?_; (with_reducible refine (land_Validate.calls k a0_0 a0_1 _ _ l0_2 t630 _ ?side1 ?side2 A25.out).mono ?_); (case side1 => exact Kd.C_below HR0_2.out (dL2_ HB GE616 GE629)); (case side2 => exact HC0_2.out); rintro e w32 ⟨rfl, hb⟩; refine ⟨_, rfl, ?_⟩; replace HO621 := Aside0.mk (Kd.R_below (by (with_reducible repeat (first | apply Kd.R_alloc | apply Kd.R_drewN | apply Kd.R_drew)); exact (Kd.R_mono (Kd.R_far (p := ⟨gb629, 2, none⟩) (Kd.R_far (p := ⟨gb629, 1, none⟩) (Kd.R_far (p := ⟨gb629, 0, none⟩) (Kd.R_types HO621.out BK629.out (by decide)) (fun _ hk => hk.2) (.int .i64 t622)) (fun _ hk => hk.2) (.int .i64 t623)) (fun _ hk => hk.2) (.slice Ao24 t624.length co24)) (fun _ h_ => h_.1))) hb); replace HO626 := Aside0.mk (Kd.R_below (by (with_reducible repeat (first | apply Kd.R_alloc | apply Kd.R_drewN | apply Kd.R_drew)); exact (Kd.R_mono (Kd.R_far (p := ⟨gb629, 2, none⟩) (Kd.R_far (p := ⟨gb629, 1, none⟩) (Kd.R_far (p := ⟨gb629, 0, none⟩) (Kd.R_types HO626.out BK629.out (by decide)) (fun _ hk => hk.2) (.int .i64 t622)) (fun _ hk => hk.2) (.int .i64 t623)) (fun _ hk => hk.2) (.slice Ao24 t624.length co24)) (fun _ h_ => h_.1))) hb); replace BK616 := Aside0.mk (blk_below (g := gb616) (o := .cells #[.int .i64 a0_0, .int .i64 a0_1, .slice A0_2 l0_2.length c0_2] 24 (0, 0)) (by (with_reducible repeat (first | refine blk_drewN ?_ _ | refine blk_drew ?_ | refine blk_alloc ?_ _)); refine blk_far ?_ NB616_629.out _; (with_reducible repeat (first | refine blk_drewN ?_ _ | refine blk_drew ?_ | refine blk_alloc ?_ _)); refine blk_far ?_ NB616_629.out _; (with_reducible repeat (first | refine blk_drewN ?_ _ | refine blk_drew ?_ | refine blk_alloc ?_ _)); refine blk_far ?_ NB616_629.out _; (with_reducible repeat (first | refine blk_drewN ?_ _ | refine blk_drew ?_ | refine blk_alloc ?_ _)); exact BK616.out) hb); replace BK629 := Aside0.mk (blk_below (g := gb629) (o := .cells #[.int .i64 t622, .int .i64 t623, .slice Ao24 t624.length co24] 24 (0, 0)) (by (with_reducible repeat (first | refine blk_drewN ?_ _ | refine blk_drew ?_ | refine blk_alloc ?_ _)); refine blk_put (cs := #[.int .i64 t622, .int .i64 t623, .slice none 0 0]) ?_ 2 _ rfl; (with_reducible repeat (first | refine blk_drewN ?_ _ | refine blk_drew ?_ | refine blk_alloc ?_ _)); refine blk_put (cs := #[.int .i64 t622, .int .i64 0, .slice none 0 0]) ?_ 1 _ rfl; (with_reducible repeat (first | refine blk_drewN ?_ _ | refine blk_drew ?_ | refine blk_alloc ?_ _)); refine blk_put (cs := #[.int .i64 0, .int .i64 0, .slice none 0 0]) ?_ 0 _ rfl; (with_reducible repeat (first | refine blk_drewN ?_ _ | refine blk_drew ?_ | refine blk_alloc ?_ _)); exact BK629.out) hb); replace HB := Aside0.mk (below_step (dL2_ HB GE616 GE629) hb); obtain ⟨hcz33_0, hcz33_1, hcz33_2, hfz33_0, hfz33_1, hfz33_2⟩ := cs3_ BK616.out) | (go_at_call 40; (with_reducible refine (hinterlandref02_Is.calls a0_0 a0_1 _ _ l0_2 a1 true _ ?side1 ?side2 A27.out).mono ?_); (case side1 => exact dC_ HR0_2 HB); (case side2 => exact HC0_2.out); rintro e w34 ⟨rfl, hb⟩; replace HO621 := Aside0.mk (Kd.R_below (dR_ HO621) hb); replace HO626 := Aside0.mk (Kd.R_below (dR_ HO626) hb); replace BK616 := Aside0.mk (blk_below (g := gb616) (o := .cells #[.int .i64 a0_0, .int .i64 a0_1, .slice A0_2 l0_2.length c0_2] 24 (0, 0)) (dB_ BK616) hb); replace BK629 := Aside0.mk (blk_below (g := gb629) (o := .cells #[.int .i64 t622, .int .i64 t623, .slice Ao24 t624.length co24] 24 (0, 0)) (dB_ BK629) hb); replace HB := Aside0.mk (below_step (dL2_ HB GE616 GE629) hb)))
      go_meet
      case rel => exact ⟨_, (true), tS_, H', ⟨by first | omega | exact Nat.le_refl _⟩, ⟨by (with_reducible repeat (first | apply Kd.R_alloc | apply Kd.R_drewN | apply Kd.R_drew)); exact Kd.R_mono HO626.out (fun _ hk => trivial)⟩, ⟨dB_ BK616⟩, ⟨dB_ BK629⟩, ⟨dL2_ HB GE616 GE629⟩⟩
     ·rw [if_neg c29] at H
      have c29b0 : decide (a2 < 0) = false := decide_eq_false c29
      clear c29
      have H' := Aside0.mk H
      clear H
      have hnb35 := NB616_629.out
      have hnc35 := NB629_616.out
      obtain ⟨hcz36_0, hcz36_1, hcz36_2, hfz36_0, hfz36_1, hfz36_2⟩ := cs3_ BK616.out
      go_wp2_with (first | ((with_reducible refine gate_callee (f := 17) rfl ?_); refine goesL_ (some 26) rfl rfl Try.func17 (by kernel_rfl) rfl #[.agg #[.int .i64 a0_0, .int .i64 a0_1, .slice A0_2 l0_2.length c0_2]] rfl tA_ ?_; (with_reducible refine (land_Validate.calls k a0_0 a0_1 _ _ l0_2 t630 _ ?side1 ?side2 A25.out).mono ?_); (case side1 => exact Kd.C_below HR0_2.out (dL2_ HB GE616 GE629)); (case side2 => exact HC0_2.out); rintro e w37 ⟨rfl, hb⟩; refine ⟨_, rfl, ?_⟩; replace HO621 := Aside0.mk (Kd.R_below (by (with_reducible repeat (first | apply Kd.R_alloc | apply Kd.R_drewN | apply Kd.R_drew)); exact (Kd.R_mono (Kd.R_far (p := ⟨gb629, 2, none⟩) (Kd.R_far (p := ⟨gb629, 1, none⟩) (Kd.R_far (p := ⟨gb629, 0, none⟩) (Kd.R_types HO621.out BK629.out (by decide)) (fun _ hk => hk.2) (.int .i64 t622)) (fun _ hk => hk.2) (.int .i64 t623)) (fun _ hk => hk.2) (.slice Ao24 t624.length co24)) (fun _ h_ => h_.1))) hb); replace HO626 := Aside0.mk (Kd.R_below (by (with_reducible repeat (first | apply Kd.R_alloc | apply Kd.R_drewN | apply Kd.R_drew)); exact (Kd.R_mono (Kd.R_far (p := ⟨gb629, 2, none⟩) (Kd.R_far (p := ⟨gb629, 1, none⟩) (Kd.R_far (p := ⟨gb629, 0, none⟩) (Kd.R_types HO626.out BK629.out (by decide)) (fun _ hk => hk.2) (.int .i64 t622)) (fun _ hk => hk.2) (.int .i64 t623)) (fun _ hk => hk.2) (.slice Ao24 t624.length co24)) (fun _ h_ => h_.1))) hb); replace BK616 := Aside0.mk (blk_below (g := gb616) (o := .cells #[.int .i64 a0_0, .int .i64 a0_1, .slice A0_2 l0_2.length c0_2] 24 (0, 0)) (by (with_reducible repeat (first | refine blk_drewN ?_ _ | refine blk_drew ?_ | refine blk_alloc ?_ _)); refine blk_far ?_ NB616_629.out _; (with_reducible repeat (first | refine blk_drewN ?_ _ | refine blk_drew ?_ | refine blk_alloc ?_ _)); refine blk_far ?_ NB616_629.out _; (with_reducible repeat (first | refine blk_drewN ?_ _ | refine blk_drew ?_ | refine blk_alloc ?_ _)); refine blk_far ?_ NB616_629.out _; (with_reducible repeat (first | refine blk_drewN ?_ _ | refine blk_drew ?_ | refine blk_alloc ?_ _)); exact BK616.out) hb); replace BK629 := Aside0.mk (blk_below (g := gb629) (o := .cells #[.int .i64 t622, .int .i64 t623, .slice Ao24 t624.length co24] 24 (0, 0)) (by (with_reducible repeat (first | refine blk_drewN ?_ _ | refine blk_drew ?_ | refine blk_alloc ?_ _)); refine blk_put (cs := #[.int .i64 t622, .int .i64 t623, .slice none 0 0]) ?_ 2 _ rfl; (with_reducible repeat (first | refine blk_drewN ?_ _ | refine blk_drew ?_ | refine blk_alloc ?_ _)); refine blk_put (cs := #[.int .i64 t622, .int .i64 0, .slice none 0 0]) ?_ 1 _ rfl; (with_reducible repeat (first | refine blk_drewN ?_ _ | refine blk_drew ?_ | refine blk_alloc ?_ _)); refine blk_put (cs := #[.int .i64 0, .int .i64 0, .slice none 0 0]) ?_ 0 _ rfl; (with_reducible repeat (first | refine blk_drewN ?_ _ | refine blk_drew ?_ | refine blk_alloc ?_ _)); exact BK629.out) hb); replace HB := Aside0.mk (below_step (dL2_ HB GE616 GE629) hb); obtain ⟨hcz38_0, hcz38_1, hcz38_2, hfz38_0, hfz38_1, hfz38_2⟩ := cs3_ BK616.out) | (go_at_call 40; (with_reducible refine (hinterlandref02_Is.calls a0_0 a0_1 _ _ l0_2 a1 true _ ?side1 ?side2 A27.out).mono ?_); (case side1 => exact dC_ HR0_2 HB); (case side2 => exact HC0_2.out); rintro e w39 ⟨rfl, hb⟩; replace HO621 := Aside0.mk (Kd.R_below (dR_ HO621) hb); replace HO626 := Aside0.mk (Kd.R_below (dR_ HO626) hb); replace BK616 := Aside0.mk (blk_below (g := gb616) (o := .cells #[.int .i64 a0_0, .int .i64 a0_1, .slice A0_2 l0_2.length c0_2] 24 (0, 0)) (dB_ BK616) hb); replace BK629 := Aside0.mk (blk_below (g := gb629) (o := .cells #[.int .i64 t622, .int .i64 t623, .slice Ao24 t624.length co24] 24 (0, 0)) (dB_ BK629) hb); replace HB := Aside0.mk (below_step (dL2_ HB GE616 GE629) hb)))
      go_meet
      case rel => exact ⟨_, (decide (a2 > 15)), tS_, H', ⟨by first | omega | exact Nat.le_refl _⟩, ⟨by (with_reducible repeat (first | apply Kd.R_alloc | apply Kd.R_drewN | apply Kd.R_drew)); exact Kd.R_mono HO626.out (fun _ hk => trivial)⟩, ⟨dB_ BK616⟩, ⟨dB_ BK629⟩, ⟨dL2_ HB GE616 GE629⟩⟩
    ·replace c28 := Bool.eq_false_iff.mpr c28
     subst c28
     have H1 : (hinterlandlaw02_LandLevelsFlat.j0 k a1 a2 t627 t628 true t622 t623 t624) = some r := by rw [if_neg (show ¬ (false = true) by decide)] at H; exact H
     clear H
     have H := H1
     clear H1
     have H' := Aside0.mk H
     clear H
     have hnb40 := NB616_629.out
     have hnc40 := NB629_616.out
     obtain ⟨hcz41_0, hcz41_1, hcz41_2, hfz41_0, hfz41_1, hfz41_2⟩ := cs3_ BK616.out
     go_wp2_with (first | ((with_reducible refine gate_callee (f := 17) rfl ?_); refine goesL_ (some 26) rfl rfl Try.func17 (by kernel_rfl) rfl #[.agg #[.int .i64 a0_0, .int .i64 a0_1, .slice A0_2 l0_2.length c0_2]] rfl tA_ ?_; (with_reducible refine (land_Validate.calls k a0_0 a0_1 _ _ l0_2 t630 _ ?side1 ?side2 A25.out).mono ?_); (case side1 => exact Kd.C_below HR0_2.out (dL2_ HB GE616 GE629)); (case side2 => exact HC0_2.out); rintro e w42 ⟨rfl, hb⟩; refine ⟨_, rfl, ?_⟩; replace HO621 := Aside0.mk (Kd.R_below (by (with_reducible repeat (first | apply Kd.R_alloc | apply Kd.R_drewN | apply Kd.R_drew)); exact (Kd.R_mono (Kd.R_far (p := ⟨gb629, 2, none⟩) (Kd.R_far (p := ⟨gb629, 1, none⟩) (Kd.R_far (p := ⟨gb629, 0, none⟩) (Kd.R_types HO621.out BK629.out (by decide)) (fun _ hk => hk.2) (.int .i64 t622)) (fun _ hk => hk.2) (.int .i64 t623)) (fun _ hk => hk.2) (.slice Ao24 t624.length co24)) (fun _ h_ => h_.1))) hb); replace HO626 := Aside0.mk (Kd.R_below (by (with_reducible repeat (first | apply Kd.R_alloc | apply Kd.R_drewN | apply Kd.R_drew)); exact (Kd.R_mono (Kd.R_far (p := ⟨gb629, 2, none⟩) (Kd.R_far (p := ⟨gb629, 1, none⟩) (Kd.R_far (p := ⟨gb629, 0, none⟩) (Kd.R_types HO626.out BK629.out (by decide)) (fun _ hk => hk.2) (.int .i64 t622)) (fun _ hk => hk.2) (.int .i64 t623)) (fun _ hk => hk.2) (.slice Ao24 t624.length co24)) (fun _ h_ => h_.1))) hb); replace BK616 := Aside0.mk (blk_below (g := gb616) (o := .cells #[.int .i64 a0_0, .int .i64 a0_1, .slice A0_2 l0_2.length c0_2] 24 (0, 0)) (by (with_reducible repeat (first | refine blk_drewN ?_ _ | refine blk_drew ?_ | refine blk_alloc ?_ _)); refine blk_far ?_ NB616_629.out _; (with_reducible repeat (first | refine blk_drewN ?_ _ | refine blk_drew ?_ | refine blk_alloc ?_ _)); refine blk_far ?_ NB616_629.out _; (with_reducible repeat (first | refine blk_drewN ?_ _ | refine blk_drew ?_ | refine blk_alloc ?_ _)); refine blk_far ?_ NB616_629.out _; (with_reducible repeat (first | refine blk_drewN ?_ _ | refine blk_drew ?_ | refine blk_alloc ?_ _)); exact BK616.out) hb); replace BK629 := Aside0.mk (blk_below (g := gb629) (o := .cells #[.int .i64 t622, .int .i64 t623, .slice Ao24 t624.length co24] 24 (0, 0)) (by (with_reducible repeat (first | refine blk_drewN ?_ _ | refine blk_drew ?_ | refine blk_alloc ?_ _)); refine blk_put (cs := #[.int .i64 t622, .int .i64 t623, .slice none 0 0]) ?_ 2 _ rfl; (with_reducible repeat (first | refine blk_drewN ?_ _ | refine blk_drew ?_ | refine blk_alloc ?_ _)); refine blk_put (cs := #[.int .i64 t622, .int .i64 0, .slice none 0 0]) ?_ 1 _ rfl; (with_reducible repeat (first | refine blk_drewN ?_ _ | refine blk_drew ?_ | refine blk_alloc ?_ _)); refine blk_put (cs := #[.int .i64 0, .int .i64 0, .slice none 0 0]) ?_ 0 _ rfl; (with_reducible repeat (first | refine blk_drewN ?_ _ | refine blk_drew ?_ | refine blk_alloc ?_ _)); exact BK629.out) hb); replace HB := Aside0.mk (below_step (dL2_ HB GE616 GE629) hb); obtain ⟨hcz43_0, hcz43_1, hcz43_2, hfz43_0, hfz43_1, hfz43_2⟩ := cs3_ BK616.out) | (go_at_call 40; (with_reducible refine (hinterlandref02_Is.calls a0_0 a0_1 _ _ l0_2 a1 false _ ?side1 ?side2 A27.out).mono ?_); (case side1 => exact dC_ HR0_2 HB); (case side2 => exact HC0_2.out); rintro e w44 ⟨rfl, hb⟩; replace HO621 := Aside0.mk (Kd.R_below (dR_ HO621) hb); replace HO626 := Aside0.mk (Kd.R_below (dR_ HO626) hb); replace BK616 := Aside0.mk (blk_below (g := gb616) (o := .cells #[.int .i64 a0_0, .int .i64 a0_1, .slice A0_2 l0_2.length c0_2] 24 (0, 0)) (dB_ BK616) hb); replace BK629 := Aside0.mk (blk_below (g := gb629) (o := .cells #[.int .i64 t622, .int .i64 t623, .slice Ao24 t624.length co24] 24 (0, 0)) (dB_ BK629) hb); replace HB := Aside0.mk (below_step (dL2_ HB GE616 GE629) hb)))
     go_meet
     case rel => exact ⟨_, (true), tS_, H', ⟨by first | omega | exact Nat.le_refl _⟩, ⟨by (with_reducible repeat (first | apply Kd.R_alloc | apply Kd.R_drewN | apply Kd.R_drew)); exact Kd.R_mono HO626.out (fun _ hk => trivial)⟩, ⟨dB_ BK616⟩, ⟨dB_ BK629⟩, ⟨dL2_ HB GE616 GE629⟩⟩
   ·rw [if_neg c26] at H
    have c26b0 : (t630 == 0) = false := beq_eq_false_iff_ne.mpr c26
    have c26b1 : (t630 != 0) = true := bne_iff_ne.mpr c26
    (first | rw [c26b0] | (simp only [i64_w, i32_w]; rw [c26b0]) | skip)
    have H' := Aside0.mk H
    clear H
    have hnb45 := NB616_629.out
    have hnc45 := NB629_616.out
    obtain ⟨hcz46_0, hcz46_1, hcz46_2, hfz46_0, hfz46_1, hfz46_2⟩ := cs3_ BK616.out
    go_wp2_with (first | ((with_reducible refine gate_callee (f := 17) rfl ?_); refine goesL_ (some 26) rfl rfl Try.func17 (by kernel_rfl) rfl #[.agg #[.int .i64 a0_0, .int .i64 a0_1, .slice A0_2 l0_2.length c0_2]] rfl tA_ ?_; (with_reducible refine (land_Validate.calls k a0_0 a0_1 _ _ l0_2 t630 _ ?side1 ?side2 A25.out).mono ?_); (case side1 => exact Kd.C_below HR0_2.out (dL2_ HB GE616 GE629)); (case side2 => exact HC0_2.out); rintro e w47 ⟨rfl, hb⟩; refine ⟨_, rfl, ?_⟩; replace HO621 := Aside0.mk (Kd.R_below (by (with_reducible repeat (first | apply Kd.R_alloc | apply Kd.R_drewN | apply Kd.R_drew)); exact (Kd.R_mono (Kd.R_far (p := ⟨gb629, 2, none⟩) (Kd.R_far (p := ⟨gb629, 1, none⟩) (Kd.R_far (p := ⟨gb629, 0, none⟩) (Kd.R_types HO621.out BK629.out (by decide)) (fun _ hk => hk.2) (.int .i64 t622)) (fun _ hk => hk.2) (.int .i64 t623)) (fun _ hk => hk.2) (.slice Ao24 t624.length co24)) (fun _ h_ => h_.1))) hb); replace HO626 := Aside0.mk (Kd.R_below (by (with_reducible repeat (first | apply Kd.R_alloc | apply Kd.R_drewN | apply Kd.R_drew)); exact (Kd.R_mono (Kd.R_far (p := ⟨gb629, 2, none⟩) (Kd.R_far (p := ⟨gb629, 1, none⟩) (Kd.R_far (p := ⟨gb629, 0, none⟩) (Kd.R_types HO626.out BK629.out (by decide)) (fun _ hk => hk.2) (.int .i64 t622)) (fun _ hk => hk.2) (.int .i64 t623)) (fun _ hk => hk.2) (.slice Ao24 t624.length co24)) (fun _ h_ => h_.1))) hb); replace BK616 := Aside0.mk (blk_below (g := gb616) (o := .cells #[.int .i64 a0_0, .int .i64 a0_1, .slice A0_2 l0_2.length c0_2] 24 (0, 0)) (by (with_reducible repeat (first | refine blk_drewN ?_ _ | refine blk_drew ?_ | refine blk_alloc ?_ _)); refine blk_far ?_ NB616_629.out _; (with_reducible repeat (first | refine blk_drewN ?_ _ | refine blk_drew ?_ | refine blk_alloc ?_ _)); refine blk_far ?_ NB616_629.out _; (with_reducible repeat (first | refine blk_drewN ?_ _ | refine blk_drew ?_ | refine blk_alloc ?_ _)); refine blk_far ?_ NB616_629.out _; (with_reducible repeat (first | refine blk_drewN ?_ _ | refine blk_drew ?_ | refine blk_alloc ?_ _)); exact BK616.out) hb); replace BK629 := Aside0.mk (blk_below (g := gb629) (o := .cells #[.int .i64 t622, .int .i64 t623, .slice Ao24 t624.length co24] 24 (0, 0)) (by (with_reducible repeat (first | refine blk_drewN ?_ _ | refine blk_drew ?_ | refine blk_alloc ?_ _)); refine blk_put (cs := #[.int .i64 t622, .int .i64 t623, .slice none 0 0]) ?_ 2 _ rfl; (with_reducible repeat (first | refine blk_drewN ?_ _ | refine blk_drew ?_ | refine blk_alloc ?_ _)); refine blk_put (cs := #[.int .i64 t622, .int .i64 0, .slice none 0 0]) ?_ 1 _ rfl; (with_reducible repeat (first | refine blk_drewN ?_ _ | refine blk_drew ?_ | refine blk_alloc ?_ _)); refine blk_put (cs := #[.int .i64 0, .int .i64 0, .slice none 0 0]) ?_ 0 _ rfl; (with_reducible repeat (first | refine blk_drewN ?_ _ | refine blk_drew ?_ | refine blk_alloc ?_ _)); exact BK629.out) hb); replace HB := Aside0.mk (below_step (dL2_ HB GE616 GE629) hb)))
    go_meet
    case rel => exact ⟨_, (true), tS_, H', ⟨by first | omega | exact Nat.le_refl _⟩, ⟨by (with_reducible repeat (first | apply Kd.R_alloc | apply Kd.R_drewN | apply Kd.R_drew)); exact Kd.R_mono HO626.out (fun _ hk => trivial)⟩, ⟨dB_ BK616⟩, ⟨dB_ BK629⟩, ⟨dL2_ HB GE616 GE629⟩⟩
  case rest =>
   clear HC12
   try clear c5
   try clear c26
   try clear c29
   try clear hcz14_0
   try clear hcz14_1
   try clear hcz14_2
   try clear hcz16_0
   try clear hcz16_1
   try clear hcz16_2
   try clear hcz23_0
   try clear hcz23_1
   try clear hcz23_2
   try clear hfz14_0
   try clear hfz14_1
   try clear hfz14_2
   try clear hfz16_0
   try clear hfz16_1
   try clear hfz16_2
   try clear hfz23_0
   try clear hfz23_1
   try clear hfz23_2
   obtain ⟨kq, x41_11, rfl, HA, HJ11, HO_630002, BK616, BK629, HB⟩ := hcut
   cases kq with
   | zero => exact absurd HA.out (by simp [hinterlandlaw02_LandLevelsFlat.j0])
   | succ kj11 =>
    have H := HA.out
    clear HA
    simp only [hinterlandlaw02_LandLevelsFlat.j0] at H
    by_cases c48 : x41_11 = true
    ·subst c48
     have H1 : (if t628 = 0 then (some false) else ((hinterlandlaw02_known.f kj11).bind fun t632 => (some t632))) = some r := by rw [if_pos rfl] at H; exact H
     clear H
     have H := H1
     clear H1
     by_cases c49 : t628 = 0
     ·rw [if_pos c49] at H
      have c49b0 : (t628 == 0) = true := beq_iff_eq.mpr c49
      have c49b1 : (t628 != 0) = false := bne_eq_false_iff_eq.mpr c49
      clear c49
      obtain rfl := Option.some.inj H
      go_wp2
      go_ret
      exact ⟨tE_, dL2_ HB GE616 GE629⟩
     ·rw [if_neg c49] at H
      have c49b0 : (t628 == 0) = false := beq_eq_false_iff_ne.mpr c49
      have c49b1 : (t628 != 0) = true := bne_iff_ne.mpr c49
      replace H := Option.bind_eq_some_iff.mp H
      obtain ⟨t632, A500, H⟩ := H
      replace H : (some t632) = some r := H
      have A50 := Aside0.mk A500
      clear A500
      obtain rfl := Option.some.inj H
      go_wp2_with (first | (go_at_call 16; (with_reducible refine (hinterlandlaw02_known.calls kj11  t632 _ A50.out).mono ?_); rintro e w51 ⟨rfl, hb⟩; replace HO_630002 := Aside0.mk (Kd.R_below (dR_ HO_630002) hb); replace BK616 := Aside0.mk (blk_below (g := gb616) (o := .cells #[.int .i64 a0_0, .int .i64 a0_1, .slice A0_2 l0_2.length c0_2] 24 (0, 0)) (dB_ BK616) hb); replace BK629 := Aside0.mk (blk_below (g := gb629) (o := .cells #[.int .i64 t622, .int .i64 t623, .slice Ao24 t624.length co24] 24 (0, 0)) (dB_ BK629) hb); replace HB := Aside0.mk (below_step (dL2_ HB GE616 GE629) hb)))
      go_ret
      exact ⟨tE_, dL2_ HB GE616 GE629⟩
    ·replace c48 := Bool.eq_false_iff.mpr c48
     subst c48
     have H1 : ((land_Slope.f kj11 t622 t623 t624 a1).bind fun bt633 => (if t628 = 0 then (if bt633.2.2 = 0 then (if bt633.1 = 0 then (if bt633.2.1 = a2 then (if t627 ≥ 0 then (if (Int.tmod t627 250) = 0 then ((hinterlandlaw02_known.f kj11).bind fun t636 => (some t636)) else (some false)) else (some false)) else (some false)) else (some false)) else (some false)) else (some false))) = some r := by rw [if_neg (show ¬ (false = true) by decide)] at H; exact H
     clear H
     have H := H1
     clear H1
     replace H := Option.bind_eq_some_iff.mp H
     obtain ⟨⟨t633, t634, t635⟩, A520, H⟩ := H
     replace H : (if t628 = 0 then (if t635 = 0 then (if t633 = 0 then (if t634 = a2 then (if t627 ≥ 0 then (if (Int.tmod t627 250) = 0 then ((hinterlandlaw02_known.f kj11).bind fun t636 => (some t636)) else (some false)) else (some false)) else (some false)) else (some false)) else (some false)) else (some false)) = some r := H
     have A52 := Aside0.mk A520
     clear A520
     by_cases c53 : t628 = 0
     ·rw [if_pos c53] at H
      have c53b0 : (t628 == 0) = true := beq_iff_eq.mpr c53
      have c53b1 : (t628 != 0) = false := bne_eq_false_iff_eq.mpr c53
      clear c53
      by_cases c54 : t635 = 0
      ·rw [if_pos c54] at H
       have c54b0 : (t635 == 0) = true := beq_iff_eq.mpr c54
       have c54b1 : (t635 != 0) = false := bne_eq_false_iff_eq.mpr c54
       clear c54
       by_cases c55 : t633 = 0
       ·rw [if_pos c55] at H
        have c55b0 : (t633 == 0) = true := beq_iff_eq.mpr c55
        have c55b1 : (t633 != 0) = false := bne_eq_false_iff_eq.mpr c55
        clear c55
        by_cases c56 : t634 = a2
        ·rw [if_pos c56] at H
         have c56b0 : (t634 == a2) = true := beq_iff_eq.mpr c56
         have c56b1 : (t634 != a2) = false := bne_eq_false_iff_eq.mpr c56
         clear c56
         by_cases c57 : t627 ≥ 0
         ·rw [if_pos c57] at H
          have c57b0 : decide (0 ≤ t627) = true := decide_eq_true c57
          clear c57
          by_cases c58 : (Int.tmod t627 250) = 0
          ·rw [if_pos c58] at H
           have c58b0 : ((Int.tmod t627 250) == 0) = true := beq_iff_eq.mpr c58
           have c58b1 : ((Int.tmod t627 250) != 0) = false := bne_eq_false_iff_eq.mpr c58
           clear c58
           replace H := Option.bind_eq_some_iff.mp H
           obtain ⟨t636, A590, H⟩ := H
           replace H : (some t636) = some r := H
           have A59 := Aside0.mk A590
           clear A590
           obtain rfl := Option.some.inj H
           have hnb60 := NB629_616.out
           have hnc60 := NB616_629.out
           obtain ⟨hcz61_0, hcz61_1, hcz61_2, hfz61_0, hfz61_1, hfz61_2⟩ := cs3_ BK629.out
           go_wp2_with (first | ((with_reducible refine gate_callee (f := 27) rfl ?_); refine goesL_ (some 50) rfl rfl Try.func27 (by kernel_rfl) rfl #[.agg #[.int .i64 t622, .int .i64 t623, .slice Ao24 t624.length co24], .int .i64 a1] rfl tA_ ?_; (with_reducible refine (land_Slope.calls kj11 t622 t623 _ _ t624 a1 t633 t634 t635 _ ?side1 ?side2 A52.out).mono ?_); (case side1 => repeat (first | exact (Kd.R_reads' HO_630002.out).2.2 | (with_reducible refine Kd.C_alloc ?_ _) | (with_reducible refine Kd.C_drewN ?_ _) | (with_reducible refine Kd.C_drew ?_))); (case side2 => exact (Kd.R_reads' HO_630002.out).2.1); rintro e w62 ⟨rfl, hb⟩; refine ⟨_, rfl, ?_⟩; replace HO_630002 := Aside0.mk (Kd.R_below (dR_ HO_630002) hb); replace BK616 := Aside0.mk (blk_below (g := gb616) (o := .cells #[.int .i64 a0_0, .int .i64 a0_1, .slice A0_2 l0_2.length c0_2] 24 (0, 0)) (dB_ BK616) hb); replace BK629 := Aside0.mk (blk_below (g := gb629) (o := .cells #[.int .i64 t622, .int .i64 t623, .slice Ao24 t624.length co24] 24 (0, 0)) (dB_ BK629) hb); replace HB := Aside0.mk (below_step (dL2_ HB GE616 GE629) hb)) | (go_at_call 16; (with_reducible refine (hinterlandlaw02_known.calls kj11  t636 _ A59.out).mono ?_); rintro e w63 ⟨rfl, hb⟩; replace HO_630002 := Aside0.mk (Kd.R_below (dR_ HO_630002) hb); replace BK616 := Aside0.mk (blk_below (g := gb616) (o := .cells #[.int .i64 a0_0, .int .i64 a0_1, .slice A0_2 l0_2.length c0_2] 24 (0, 0)) (dB_ BK616) hb); replace BK629 := Aside0.mk (blk_below (g := gb629) (o := .cells #[.int .i64 t622, .int .i64 t623, .slice Ao24 t624.length co24] 24 (0, 0)) (dB_ BK629) hb); replace HB := Aside0.mk (below_step (dL2_ HB GE616 GE629) hb)))
           go_ret
           exact ⟨tE_, dL2_ HB GE616 GE629⟩
          ·rw [if_neg c58] at H
           have c58b0 : ((Int.tmod t627 250) == 0) = false := beq_eq_false_iff_ne.mpr c58
           have c58b1 : ((Int.tmod t627 250) != 0) = true := bne_iff_ne.mpr c58
           obtain rfl := Option.some.inj H
           have hnb64 := NB629_616.out
           have hnc64 := NB616_629.out
           obtain ⟨hcz65_0, hcz65_1, hcz65_2, hfz65_0, hfz65_1, hfz65_2⟩ := cs3_ BK629.out
           go_wp2_with (first | ((with_reducible refine gate_callee (f := 27) rfl ?_); refine goesL_ (some 50) rfl rfl Try.func27 (by kernel_rfl) rfl #[.agg #[.int .i64 t622, .int .i64 t623, .slice Ao24 t624.length co24], .int .i64 a1] rfl tA_ ?_; (with_reducible refine (land_Slope.calls kj11 t622 t623 _ _ t624 a1 t633 t634 t635 _ ?side1 ?side2 A52.out).mono ?_); (case side1 => repeat (first | exact (Kd.R_reads' HO_630002.out).2.2 | (with_reducible refine Kd.C_alloc ?_ _) | (with_reducible refine Kd.C_drewN ?_ _) | (with_reducible refine Kd.C_drew ?_))); (case side2 => exact (Kd.R_reads' HO_630002.out).2.1); rintro e w66 ⟨rfl, hb⟩; refine ⟨_, rfl, ?_⟩; replace HO_630002 := Aside0.mk (Kd.R_below (dR_ HO_630002) hb); replace BK616 := Aside0.mk (blk_below (g := gb616) (o := .cells #[.int .i64 a0_0, .int .i64 a0_1, .slice A0_2 l0_2.length c0_2] 24 (0, 0)) (dB_ BK616) hb); replace BK629 := Aside0.mk (blk_below (g := gb629) (o := .cells #[.int .i64 t622, .int .i64 t623, .slice Ao24 t624.length co24] 24 (0, 0)) (dB_ BK629) hb); replace HB := Aside0.mk (below_step (dL2_ HB GE616 GE629) hb)))
           go_ret
           exact ⟨tE_, dL2_ HB GE616 GE629⟩
         ·rw [if_neg c57] at H
          have c57b0 : decide (0 ≤ t627) = false := decide_eq_false c57
          clear c57
          obtain rfl := Option.some.inj H
          have hnb67 := NB629_616.out
          have hnc67 := NB616_629.out
          obtain ⟨hcz68_0, hcz68_1, hcz68_2, hfz68_0, hfz68_1, hfz68_2⟩ := cs3_ BK629.out
          go_wp2_with (first | ((with_reducible refine gate_callee (f := 27) rfl ?_); refine goesL_ (some 50) rfl rfl Try.func27 (by kernel_rfl) rfl #[.agg #[.int .i64 t622, .int .i64 t623, .slice Ao24 t624.length co24], .int .i64 a1] rfl tA_ ?_; (with_reducible refine (land_Slope.calls kj11 t622 t623 _ _ t624 a1 t633 t634 t635 _ ?side1 ?side2 A52.out).mono ?_); (case side1 => repeat (first | exact (Kd.R_reads' HO_630002.out).2.2 | (with_reducible refine Kd.C_alloc ?_ _) | (with_reducible refine Kd.C_drewN ?_ _) | (with_reducible refine Kd.C_drew ?_))); (case side2 => exact (Kd.R_reads' HO_630002.out).2.1); rintro e w69 ⟨rfl, hb⟩; refine ⟨_, rfl, ?_⟩; replace HO_630002 := Aside0.mk (Kd.R_below (dR_ HO_630002) hb); replace BK616 := Aside0.mk (blk_below (g := gb616) (o := .cells #[.int .i64 a0_0, .int .i64 a0_1, .slice A0_2 l0_2.length c0_2] 24 (0, 0)) (dB_ BK616) hb); replace BK629 := Aside0.mk (blk_below (g := gb629) (o := .cells #[.int .i64 t622, .int .i64 t623, .slice Ao24 t624.length co24] 24 (0, 0)) (dB_ BK629) hb); replace HB := Aside0.mk (below_step (dL2_ HB GE616 GE629) hb)))
          go_ret
          exact ⟨tE_, dL2_ HB GE616 GE629⟩
        ·rw [if_neg c56] at H
         have c56b0 : (t634 == a2) = false := beq_eq_false_iff_ne.mpr c56
         have c56b1 : (t634 != a2) = true := bne_iff_ne.mpr c56
         obtain rfl := Option.some.inj H
         have hnb70 := NB629_616.out
         have hnc70 := NB616_629.out
         obtain ⟨hcz71_0, hcz71_1, hcz71_2, hfz71_0, hfz71_1, hfz71_2⟩ := cs3_ BK629.out
         go_wp2_with (first | ((with_reducible refine gate_callee (f := 27) rfl ?_); refine goesL_ (some 50) rfl rfl Try.func27 (by kernel_rfl) rfl #[.agg #[.int .i64 t622, .int .i64 t623, .slice Ao24 t624.length co24], .int .i64 a1] rfl tA_ ?_; (with_reducible refine (land_Slope.calls kj11 t622 t623 _ _ t624 a1 t633 t634 t635 _ ?side1 ?side2 A52.out).mono ?_); (case side1 => repeat (first | exact (Kd.R_reads' HO_630002.out).2.2 | (with_reducible refine Kd.C_alloc ?_ _) | (with_reducible refine Kd.C_drewN ?_ _) | (with_reducible refine Kd.C_drew ?_))); (case side2 => exact (Kd.R_reads' HO_630002.out).2.1); rintro e w72 ⟨rfl, hb⟩; refine ⟨_, rfl, ?_⟩; replace HO_630002 := Aside0.mk (Kd.R_below (dR_ HO_630002) hb); replace BK616 := Aside0.mk (blk_below (g := gb616) (o := .cells #[.int .i64 a0_0, .int .i64 a0_1, .slice A0_2 l0_2.length c0_2] 24 (0, 0)) (dB_ BK616) hb); replace BK629 := Aside0.mk (blk_below (g := gb629) (o := .cells #[.int .i64 t622, .int .i64 t623, .slice Ao24 t624.length co24] 24 (0, 0)) (dB_ BK629) hb); replace HB := Aside0.mk (below_step (dL2_ HB GE616 GE629) hb)))
         go_ret
         exact ⟨tE_, dL2_ HB GE616 GE629⟩
       ·rw [if_neg c55] at H
        have c55b0 : (t633 == 0) = false := beq_eq_false_iff_ne.mpr c55
        have c55b1 : (t633 != 0) = true := bne_iff_ne.mpr c55
        obtain rfl := Option.some.inj H
        have hnb73 := NB629_616.out
        have hnc73 := NB616_629.out
        obtain ⟨hcz74_0, hcz74_1, hcz74_2, hfz74_0, hfz74_1, hfz74_2⟩ := cs3_ BK629.out
        go_wp2_with (first | ((with_reducible refine gate_callee (f := 27) rfl ?_); refine goesL_ (some 50) rfl rfl Try.func27 (by kernel_rfl) rfl #[.agg #[.int .i64 t622, .int .i64 t623, .slice Ao24 t624.length co24], .int .i64 a1] rfl tA_ ?_; (with_reducible refine (land_Slope.calls kj11 t622 t623 _ _ t624 a1 t633 t634 t635 _ ?side1 ?side2 A52.out).mono ?_); (case side1 => repeat (first | exact (Kd.R_reads' HO_630002.out).2.2 | (with_reducible refine Kd.C_alloc ?_ _) | (with_reducible refine Kd.C_drewN ?_ _) | (with_reducible refine Kd.C_drew ?_))); (case side2 => exact (Kd.R_reads' HO_630002.out).2.1); rintro e w75 ⟨rfl, hb⟩; refine ⟨_, rfl, ?_⟩; replace HO_630002 := Aside0.mk (Kd.R_below (dR_ HO_630002) hb); replace BK616 := Aside0.mk (blk_below (g := gb616) (o := .cells #[.int .i64 a0_0, .int .i64 a0_1, .slice A0_2 l0_2.length c0_2] 24 (0, 0)) (dB_ BK616) hb); replace BK629 := Aside0.mk (blk_below (g := gb629) (o := .cells #[.int .i64 t622, .int .i64 t623, .slice Ao24 t624.length co24] 24 (0, 0)) (dB_ BK629) hb); replace HB := Aside0.mk (below_step (dL2_ HB GE616 GE629) hb)))
        go_ret
        exact ⟨tE_, dL2_ HB GE616 GE629⟩
      ·rw [if_neg c54] at H
       have c54b0 : (t635 == 0) = false := beq_eq_false_iff_ne.mpr c54
       have c54b1 : (t635 != 0) = true := bne_iff_ne.mpr c54
       obtain rfl := Option.some.inj H
       have hnb76 := NB629_616.out
       have hnc76 := NB616_629.out
       obtain ⟨hcz77_0, hcz77_1, hcz77_2, hfz77_0, hfz77_1, hfz77_2⟩ := cs3_ BK629.out
       go_wp2_with (first | ((with_reducible refine gate_callee (f := 27) rfl ?_); refine goesL_ (some 50) rfl rfl Try.func27 (by kernel_rfl) rfl #[.agg #[.int .i64 t622, .int .i64 t623, .slice Ao24 t624.length co24], .int .i64 a1] rfl tA_ ?_; (with_reducible refine (land_Slope.calls kj11 t622 t623 _ _ t624 a1 t633 t634 t635 _ ?side1 ?side2 A52.out).mono ?_); (case side1 => repeat (first | exact (Kd.R_reads' HO_630002.out).2.2 | (with_reducible refine Kd.C_alloc ?_ _) | (with_reducible refine Kd.C_drewN ?_ _) | (with_reducible refine Kd.C_drew ?_))); (case side2 => exact (Kd.R_reads' HO_630002.out).2.1); rintro e w78 ⟨rfl, hb⟩; refine ⟨_, rfl, ?_⟩; replace HO_630002 := Aside0.mk (Kd.R_below (dR_ HO_630002) hb); replace BK616 := Aside0.mk (blk_below (g := gb616) (o := .cells #[.int .i64 a0_0, .int .i64 a0_1, .slice A0_2 l0_2.length c0_2] 24 (0, 0)) (dB_ BK616) hb); replace BK629 := Aside0.mk (blk_below (g := gb629) (o := .cells #[.int .i64 t622, .int .i64 t623, .slice Ao24 t624.length co24] 24 (0, 0)) (dB_ BK629) hb); replace HB := Aside0.mk (below_step (dL2_ HB GE616 GE629) hb)))
       go_ret
       exact ⟨tE_, dL2_ HB GE616 GE629⟩
     ·rw [if_neg c53] at H
      have c53b0 : (t628 == 0) = false := beq_eq_false_iff_ne.mpr c53
      have c53b1 : (t628 != 0) = true := bne_iff_ne.mpr c53
      obtain rfl := Option.some.inj H
      have hnb79 := NB629_616.out
      have hnc79 := NB616_629.out
      obtain ⟨hcz80_0, hcz80_1, hcz80_2, hfz80_0, hfz80_1, hfz80_2⟩ := cs3_ BK629.out
      go_wp2_with (first | ((with_reducible refine gate_callee (f := 27) rfl ?_); refine goesL_ (some 50) rfl rfl Try.func27 (by kernel_rfl) rfl #[.agg #[.int .i64 t622, .int .i64 t623, .slice Ao24 t624.length co24], .int .i64 a1] rfl tA_ ?_; (with_reducible refine (land_Slope.calls kj11 t622 t623 _ _ t624 a1 t633 t634 t635 _ ?side1 ?side2 A52.out).mono ?_); (case side1 => repeat (first | exact (Kd.R_reads' HO_630002.out).2.2 | (with_reducible refine Kd.C_alloc ?_ _) | (with_reducible refine Kd.C_drewN ?_ _) | (with_reducible refine Kd.C_drew ?_))); (case side2 => exact (Kd.R_reads' HO_630002.out).2.1); rintro e w81 ⟨rfl, hb⟩; refine ⟨_, rfl, ?_⟩; replace HO_630002 := Aside0.mk (Kd.R_below (dR_ HO_630002) hb); replace BK616 := Aside0.mk (blk_below (g := gb616) (o := .cells #[.int .i64 a0_0, .int .i64 a0_1, .slice A0_2 l0_2.length c0_2] 24 (0, 0)) (dB_ BK616) hb); replace BK629 := Aside0.mk (blk_below (g := gb629) (o := .cells #[.int .i64 t622, .int .i64 t623, .slice Ao24 t624.length co24] 24 (0, 0)) (dB_ BK629) hb); replace HB := Aside0.mk (below_step (dL2_ HB GE616 GE629) hb)))
      go_ret
      exact ⟨tE_, dL2_ HB GE616 GE629⟩

/-- THE ONE PURE STATEMENT of hinterlandlaw02_LandLevelsFlat. -/
def hinterlandlaw02_LandLevelsFlat.Pure : Prop := ∀ (a0_0 : Int) (a0_1 : Int) (l0_2 : List Int) (a1 : Int) (a2 : Int), (wInt .i64) a0_0 → (wInt .i64) a0_1 → (wRow (wInt .i64)) l0_2 → (wInt .i64) a1 → (wInt .i64) a2 → ∃ k, hinterlandlaw02_LandLevelsFlat.f k a0_0 a0_1 l0_2 a1 a2 = some true

end Go.Proofs.Ytchflcnegpnkkaa.Q
