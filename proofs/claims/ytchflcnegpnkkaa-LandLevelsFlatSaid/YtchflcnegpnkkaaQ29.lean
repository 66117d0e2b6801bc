-- PRINTED by print.py (a twelfth state) out of the translation. Not trusted: Lean checks it.
import Derived.Test.YtchflcnegpnkkaaPrs
import Derived.Test.YtchflcnegpnkkaaQ0
import Derived.Test.YtchflcnegpnkkaaQ7
import Derived.Test.YtchflcnegpnkkaaQ28
namespace Go.Proofs.Ytchflcnegpnkkaa.Q
open Go.RowKit Go.Proofs.YtchflcnegpnkkaaPrs Go.Proofs.YtchflcnegpnkkaaOwn Go.Proofs.YtchflcnegpnkkaaW.PrintWords Go.Proofs.YtchflcnegpnkkaaW.PrintLast Go.Proofs.YtchflcnegpnkkaaW.PrintMore
attribute [local go_sem] max2_int min2_int max_two min_two max_three min_three max_four min_four   -- for this text's walks alone
set_option linter.unusedVariables false
set_option linter.unusedSimpArgs false

/-! ### land_Slope: function 27 -/
mutual
def land_Slope.l0 : Nat → Int → Int → Int → Int → Int → Int → Int → Option (Int × Int × Int)
  | 0, _, _, _, _, _, _, _ => none
  | k + 1, x9, x10, x32, x100031000, x100031001, x100031002, x100031003 => if x32 < 4 then (if 0 ≤ x32 then (if (rd [x100031000, x100031001, x100031002, x100031003] x32) > x9 then (land_Slope.j1 k x9 (Go.bits .or .i64 x10 (shl .i64 1 x32)) (rd [x100031000, x100031001, x100031002, x100031003] x32) x32 x100031000 x100031001 x100031002 x100031003) else (land_Slope.j1 k x9 x10 (rd [x100031000, x100031001, x100031002, x100031003] x32) x32 x100031000 x100031001 x100031002 x100031003)) else (none)) else (some (x10, x9, 0))
def land_Slope.j1 : Nat → Int → Int → Int → Int → Int → Int → Int → Int → Option (Int × Int × Int)
  | 0, _, _, _, _, _, _, _, _ => none
  | k + 1, x9, x10, x12, x32, x100031000, x100031001, x100031002, x100031003 => if x12 > (wrap64 (x9 + 1)) then (land_Slope.l0 k x9 (Go.bits .or .i64 x10 16) (wrap64 (x32 + 1)) x100031000 x100031001 x100031002 x100031003) else (land_Slope.l0 k x9 x10 (wrap64 (x32 + 1)) x100031000 x100031001 x100031002 x100031003)
end
def land_Slope.f (k : Nat) (a0_0 : Int) (a0_1 : Int) (l0_2 : List Int) (a1 : Int) : Option (Int × Int × Int) := (land_check.f k a0_0 a0_1 l0_2 a1).bind fun t404 => (if t404 = 0 then ((land_four.f a0_0 a0_1 l0_2 a1).bind fun bt405 => (land_Slope.l0 k (mn (mn (mn bt405.1 bt405.2.1) bt405.2.2.1) bt405.2.2.2) 0 0 bt405.1 bt405.2.1 bt405.2.2.1 bt405.2.2.2)) else (some (0, 0, t404)))
theorem land_Slope.mono_l : ∀ k, (∀ y0 y1 y2 y3 y4 y5 y6, LeO (land_Slope.l0 k y0 y1 y2 y3 y4 y5 y6) (land_Slope.l0 (k + 1) y0 y1 y2 y3 y4 y5 y6)) ∧ (∀ y0 y1 y2 y3 y4 y5 y6 y7, LeO (land_Slope.j1 k y0 y1 y2 y3 y4 y5 y6 y7) (land_Slope.j1 (k + 1) y0 y1 y2 y3 y4 y5 y6 y7))
  | 0 => ⟨fun _ _ _ _ _ _ _ r h => by simp [land_Slope.l0] at h, fun _ _ _ _ _ _ _ _ r h => by simp [land_Slope.j1] at h⟩
  | k + 1 => by
    obtain ⟨ih0, ih1⟩ := land_Slope.mono_l k
    refine ⟨?_, ?_⟩
    · intro y0 y1 y2 y3 y4 y5 y6
      unfold land_Slope.l0
      repeat' first
      | (with_reducible first | exact ih0 _ _ _ _ _ _ _ | exact ih1 _ _ _ _ _ _ _ _ | exact land_check.mono _ _ _ _ _ | exact LeO.refl _ | exact LeO.none _ | refine LeO.ite ?_ ?_ | refine LeO.bind ?_ (fun _ => ?_))
      | exact ih0 _ _ _ _ _ _ _
      | exact ih1 _ _ _ _ _ _ _ _
      | exact land_check.mono _ _ _ _ _
      | exact LeO.none _
      | refine LeO.ite ?_ ?_
      | refine LeO.bind ?_ (fun _ => ?_)
    · intro y0 y1 y2 y3 y4 y5 y6 y7
      unfold land_Slope.j1
      repeat' first
      | (with_reducible first | exact ih0 _ _ _ _ _ _ _ | exact ih1 _ _ _ _ _ _ _ _ | exact land_check.mono _ _ _ _ _ | exact LeO.refl _ | exact LeO.none _ | refine LeO.ite ?_ ?_ | refine LeO.bind ?_ (fun _ => ?_))
      | exact ih0 _ _ _ _ _ _ _
      | exact ih1 _ _ _ _ _ _ _ _
      | exact land_check.mono _ _ _ _ _
      | exact LeO.none _
      | refine LeO.ite ?_ ?_
      | refine LeO.bind ?_ (fun _ => ?_)
theorem land_Slope.mono : ∀ a0 a1 a2 a3 k, LeO (land_Slope.f k a0 a1 a2 a3) (land_Slope.f (k + 1) a0 a1 a2 a3) := by
  intro a0 a1 a2 a3 k
  obtain ⟨ih0, ih1⟩ := land_Slope.mono_l k
  unfold land_Slope.f
  repeat' first
      | (with_reducible first | exact ih0 _ _ _ _ _ _ _ | exact ih1 _ _ _ _ _ _ _ _ | exact land_check.mono _ _ _ _ _ | exact LeO.refl _ | exact LeO.none _ | refine LeO.ite ?_ ?_ | refine LeO.bind ?_ (fun _ => ?_))
      | exact ih0 _ _ _ _ _ _ _
      | exact ih1 _ _ _ _ _ _ _ _
      | exact land_check.mono _ _ _ _ _
      | exact LeO.none _
      | refine LeO.ite ?_ ?_
      | refine LeO.bind ?_ (fun _ => ?_)
set_option maxHeartbeats 8000000 in
set_option maxRecDepth 100000 in
theorem land_Slope.calls (k : Nat) (a0_0 : Int) (a0_1 : Int) (A0_2 : Option Addr) (c0_2 : Nat) (l0_2 : List Int) (a1 : Int) (r1 : Int) (r2 : Int) (r3 : Int) (w : World) (hr0_2 : Kd.C (Kd.int .i64) w A0_2 l0_2.length l0_2) (hc0_2 : l0_2.length ≤ c0_2) (h : land_Slope.f k a0_0 a0_1 l0_2 a1 = some (r1, r2, r3)) :
    Calls Try.prog 27 #[.agg #[.int .i64 a0_0, .int .i64 a0_1, .slice A0_2 l0_2.length c0_2], .int .i64 a1] w fun e w' => e = .returned (.tuple #[.int .i64 r1, .int .i64 r2, .int .i64 r3]) ∧ Below w.heap.size w w' := by
 have hu24 := Try.underlying24
 have hu66 := Try.underlying66
 have HR0_2 := Aside0.mk hr0_2
 have HC0_2 := Aside0.mk hc0_2
 clear hr0_2 hc0_2
 have HB := Aside0.mk (Below.refl w.heap.size w)
 have H : ((land_check.f k a0_0 a0_1 l0_2 a1).bind fun t404 => (if t404 = 0 then ((land_four.f a0_0 a0_1 l0_2 a1).bind fun bt405 => (land_Slope.l0 k (mn (mn (mn bt405.1 bt405.2.1) bt405.2.2.1) bt405.2.2.2) 0 0 bt405.1 bt405.2.1 bt405.2.2.1 bt405.2.2.2)) else (some (0, 0, t404)))) = some (r1, r2, r3) := h
 clear h
 replace H := Option.bind_eq_some_iff.mp H
 obtain ⟨t404, A30, H⟩ := H
 replace H : (if t404 = 0 then ((land_four.f a0_0 a0_1 l0_2 a1).bind fun bt405 => (land_Slope.l0 k (mn (mn (mn bt405.1 bt405.2.1) bt405.2.2.1) bt405.2.2.2) 0 0 bt405.1 bt405.2.1 bt405.2.2.1 bt405.2.2.2)) else (some (0, 0, t404))) = some (r1, r2, r3) := H
 have A3 := Aside0.mk A30
 clear A30
 by_cases c4 : t404 = 0
 ·rw [if_pos c4] at H
  have c4b0 : (t404 == 0) = true := beq_iff_eq.mpr c4
  have c4b1 : (t404 != 0) = false := bne_eq_false_iff_eq.mpr c4
  clear c4
  replace H := Option.bind_eq_some_iff.mp H
  obtain ⟨⟨t405, t406, t407, t408⟩, A50, H⟩ := H
  replace H : (land_Slope.l0 k (mn (mn (mn t405 t406) t407) t408) 0 0 t405 t406 t407 t408) = some (r1, r2, r3) := H
  have A5 := Aside0.mk A50
  clear A50
  obtain ⟨ji6, hji6⟩ : ∃ j_ : Int, (mn t405 t406) = j_ := ⟨_, rfl⟩
  replace H : (land_Slope.l0 k (mn (mn (ji6) t407) t408) 0 0 t405 t406 t407 t408) = some (r1, r2, r3) := by first | (rw [hji6] at H; exact H) | (simp only [hji6] at H ⊢; exact H)
  (try rw [hji6] at A3)
  (try rw [hji6] at A5)
  have hji6_ : (if t406 < t405 then t406 else t405) = ji6 := hji6
  obtain ⟨ji7, hji7⟩ : ∃ j_ : Int, (mn (ji6) t407) = j_ := ⟨_, rfl⟩
  replace H : (land_Slope.l0 k (mn (ji7) t408) 0 0 t405 t406 t407 t408) = some (r1, r2, r3) := by first | (rw [hji7] at H; exact H) | (simp only [hji7] at H ⊢; exact H)
  (try rw [hji7] at A3)
  (try rw [hji7] at A5)
  have hji7_ : (if t407 < (ji6) then t407 else (ji6)) = ji7 := hji7
  obtain ⟨ji8, hji8⟩ : ∃ j_ : Int, (mn (ji7) t408) = j_ := ⟨_, rfl⟩
  replace H : (land_Slope.l0 k ji8 0 0 t405 t406 t407 t408) = some (r1, r2, r3) := by first | (rw [hji8] at H; exact H) | (simp only [hji8] at H ⊢; exact H)
  (try rw [hji8] at A3)
  (try rw [hji8] at A5)
  have hji8_ : (if t408 < (ji7) then t408 else (ji7)) = ji8 := hji8
  have H' := Aside0.mk H
  clear H
  go_enter Try.func27, Try.ntmps27
  go_wp2_with (first | ((with_reducible refine gate_dst (N := 2) rfl ?_); refine box_event ?hg (N := 2) ?hd (cs := #[.int .i64 a0_0, .int .i64 a0_1, .slice A0_2 l0_2.length c0_2]) (t := 24) ?hr ?_; (case hd => rfl); (case hg => rfl); (case hr => first | (go_simp; done) | (go_simp; rfl)); intro gb403 hg w9 hbox hb; have BK403 := Aside0.mk (hbox); have GW403 := Aside0.mk ((dS_ hg (dL_ HB) : w.heap.size ≤ gb403)); have GE403 := Aside0.mk ((dS_ hg (dL_ HB) : w.heap.size ≤ gb403)); replace HB := Aside0.mk (below_step (dL_ HB) hb); clear hb hbox hg; obtain ⟨hcz10_0, hcz10_1, hcz10_2, hfz10_0, hfz10_1, hfz10_2⟩ := cs3_ BK403.out) | ((with_reducible refine gate_callee (f := 50) rfl ?_); refine goesL_ (some 15) rfl rfl Try.func50 (by kernel_rfl) rfl #[.agg #[.int .i64 a0_0, .int .i64 a0_1, .slice A0_2 l0_2.length c0_2], .int .i64 a1] rfl tA_ ?_; (with_reducible refine (land_check.calls k a0_0 a0_1 _ _ l0_2 a1 t404 _ ?side1 ?side2 A3.out).mono ?_); (case side1 => exact dC_ HR0_2 HB); (case side2 => exact HC0_2.out); rintro e w11 ⟨rfl, hb⟩; refine ⟨_, rfl, ?_⟩; replace BK403 := Aside0.mk (blk_below (g := gb403) (o := .cells #[.int .i64 a0_0, .int .i64 a0_1, .slice A0_2 l0_2.length c0_2] 24 (0, 0)) (dB_ BK403) hb); replace HB := Aside0.mk (below_step (dL1_ HB GE403) hb); obtain ⟨hcz12_0, hcz12_1, hcz12_2, hfz12_0, hfz12_1, hfz12_2⟩ := cs3_ BK403.out) | ((with_reducible refine gate_callee (f := 47) rfl ?_); refine goesL_ (some 21) rfl rfl Try.func47 (by kernel_rfl) rfl #[.agg #[.int .i64 a0_0, .int .i64 a0_1, .slice A0_2 l0_2.length c0_2], .int .i64 a1] rfl tA_ ?_; (with_reducible refine (land_four.calls a0_0 a0_1 _ _ l0_2 a1 t405 t406 t407 t408 _ ?side1 ?side2 A5.out).mono ?_); (case side1 => exact dC_ HR0_2 HB); (case side2 => exact HC0_2.out); rintro e w13 ⟨rfl, hb⟩; refine ⟨_, rfl, ?_⟩; replace BK403 := Aside0.mk (blk_below (g := gb403) (o := .cells #[.int .i64 a0_0, .int .i64 a0_1, .slice A0_2 l0_2.length c0_2] 24 (0, 0)) (dB_ BK403) hb); replace HB := Aside0.mk (below_step (dL1_ HB GE403) hb)) | ((with_reducible refine gate_dst (N := 8) rfl ?_); refine box_event ?hg (N := 8) ?hd (cs := #[.int .i64 0, .int .i64 0, .int .i64 0, .int .i64 0]) (t := 66) ?hr ?_; (case hd => rfl); (case hg => rfl); (case hr => first | (go_simp; done) | (go_simp; rfl)); intro gb409 hg w14 hbox hb; have BK409 := Aside0.mk (hbox); have GW409 := Aside0.mk ((dS_ hg (dL1_ HB GE403) : w.heap.size ≤ gb409)); have GE409 := Aside0.mk ((dS_ hg (dL1_ HB GE403) : w.heap.size ≤ gb409)); replace HB := Aside0.mk (below_step (dL1_ HB GE403) hb); have NB403_409 := Aside0.mk ((by rw [hg]; exact Nat.ne_of_lt (blk_lt (dB_ BK403)) : gb403 ≠ gb409)); have NB409_403 := Aside0.mk ((by rw [hg]; exact Nat.ne_of_gt (blk_lt (dB_ BK403)) : gb409 ≠ gb403)); replace BK403 := Aside0.mk (blk_below (g := gb403) (o := .cells #[.int .i64 a0_0, .int .i64 a0_1, .slice A0_2 l0_2.length c0_2] 24 (0, 0)) (dB_ BK403) hb); clear hb hbox hg; have hnb15 := NB409_403.out; have hnc15 := NB403_409.out; obtain ⟨hcz16_0, hcz16_1, hcz16_2, hcz16_3, hfz16_0, hfz16_1, hfz16_2, hfz16_3⟩ := cs4_ BK409.out))
  go_loopg [10, 32] k (fun kq v10 v32 w' => ∃ (x10_1 : Int) (x32_1 : Int), v10 = .int .i64 x10_1 ∧ v32 = .int .i64 x32_1 ∧ Aside0 (land_Slope.l0 kq ji8 x10_1 x32_1 t405 t406 t407 t408 = some (r1, r2, r3)) ∧ Aside0 (kq ≤ k) ∧ Aside0 (w'.heap[gb403]? = some (.cells #[.int .i64 a0_0, .int .i64 a0_1, (.slice A0_2 l0_2.length c0_2)] 24 (0, 0))) ∧ Aside0 (w'.heap[gb409]? = some (.cells #[.int .i64 t405, .int .i64 t406, .int .i64 t407, .int .i64 t408] 66 (0, 0))) ∧ Aside0 (Below w.heap.size w w'))
  case atStart => exact ⟨(0), (0), tS_, tS_, H', ⟨Nat.le_refl _⟩, ⟨by (with_reducible repeat (first | refine blk_drewN ?_ _ | refine blk_drew ?_ | refine blk_alloc ?_ _)); refine blk_far ?_ NB403_409.out _; (with_reducible repeat (first | refine blk_drewN ?_ _ | refine blk_drew ?_ | refine blk_alloc ?_ _)); refine blk_far ?_ NB403_409.out _; (with_reducible repeat (first | refine blk_drewN ?_ _ | refine blk_drew ?_ | refine blk_alloc ?_ _)); refine blk_far ?_ NB403_409.out _; (with_reducible repeat (first | refine blk_drewN ?_ _ | refine blk_drew ?_ | refine blk_alloc ?_ _)); refine blk_far ?_ NB403_409.out _; (with_reducible repeat (first | refine blk_drewN ?_ _ | refine blk_drew ?_ | refine blk_alloc ?_ _)); exact BK403.out⟩, ⟨by (with_reducible repeat (first | refine blk_drewN ?_ _ | refine blk_drew ?_ | refine blk_alloc ?_ _)); refine blk_put (cs := #[.int .i64 t405, .int .i64 t406, .int .i64 t407, .int .i64 0]) ?_ 3 _ rfl; (with_reducible repeat (first | refine blk_drewN ?_ _ | refine blk_drew ?_ | refine blk_alloc ?_ _)); refine blk_put (cs := #[.int .i64 t405, .int .i64 t406, .int .i64 0, .int .i64 0]) ?_ 2 _ rfl; (with_reducible repeat (first | refine blk_drewN ?_ _ | refine blk_drew ?_ | refine blk_alloc ?_ _)); refine blk_put (cs := #[.int .i64 t405, .int .i64 0, .int .i64 0, .int .i64 0]) ?_ 1 _ rfl; (with_reducible repeat (first | refine blk_drewN ?_ _ | refine blk_drew ?_ | refine blk_alloc ?_ _)); refine blk_put (cs := #[.int .i64 0, .int .i64 0, .int .i64 0, .int .i64 0]) ?_ 0 _ rfl; (with_reducible repeat (first | refine blk_drewN ?_ _ | refine blk_drew ?_ | refine blk_alloc ?_ _)); exact BK409.out⟩, ⟨dL2_ HB GE403 GE409⟩⟩
  case round =>
   clear H'
   try clear c4
   try clear c4b0
   try clear c4b1
   try clear hcz10_0
   try clear hcz10_1
   try clear hcz10_2
   try clear hcz12_0
   try clear hcz12_1
   try clear hcz12_2
   try clear hcz16_0
   try clear hcz16_1
   try clear hcz16_2
   try clear hcz16_3
   try clear hfz10_0
   try clear hfz10_1
   try clear hfz10_2
   try clear hfz12_0
   try clear hfz12_1
   try clear hfz12_2
   try clear hfz16_0
   try clear hfz16_1
   try clear hfz16_2
   try clear hfz16_3
   obtain ⟨x10_1, x32_1, rfl, rfl, HA, HK1, BK403, BK409, HB⟩ := hrel
   cases gk with
   | zero => exact absurd HA.out (by simp [land_Slope.l0])
   | succ k1 =>
    have H := HA.out
    clear HA
    simp only [land_Slope.l0] at H
    by_cases c17 : x32_1 < 4
    ·rw [if_pos c17] at H
     have c17b0 : decide (x32_1 < 4) = true := decide_eq_true c17
     clear c17
     by_cases c18 : 0 ≤ x32_1
     ·rw [if_pos c18] at H
      have c18b0 : decide (0 ≤ x32_1) = true := decide_eq_true c18
      clear c18
      have HC19 := Aside0.mk H
      clear H
      have pr20 : 0 ≤ (x32_1 : Int) := of_decide_eq_true tW_
      have qr20 : (x32_1 : Int) < 4 := of_decide_eq_true tW_
      have har20 : ∀ w_ : World, (Instr.index 66 (.agg #[.int .i64 t405, .int .i64 t406, .int .i64 t407, .int .i64 t408]) (.int .i64 x32_1)).run Try.prog w_ = .ok (.int .i64 (rd [t405, t406, t407, t408] x32_1)) w_ := fun w_ => run_arr Try.underlying66 Try.underlying3 rfl (by kernel_rfl) .i64 [t405, t406, t407, t408] rfl x32_1 pr20 qr20 w_
      go_upto_if 38 with (fail)
      go_cut [10] (fun v10 wc => ∃ (kq : Nat) (x10_18 : Int), v10 = .int .i64 x10_18 ∧ Aside0 (land_Slope.j1 kq ji8 x10_18 (rd [t405, t406, t407, t408] x32_1) x32_1 t405 t406 t407 t408 = some (r1, r2, r3)) ∧ Aside0 (kq ≤ k1) ∧ Aside0 (wc.heap[gb403]? = some (.cells #[.int .i64 a0_0, .int .i64 a0_1, (.slice A0_2 l0_2.length c0_2)] 24 (0, 0))) ∧ Aside0 (wc.heap[gb409]? = some (.cells #[.int .i64 t405, .int .i64 t406, .int .i64 t407, .int .i64 t408] 66 (0, 0))) ∧ Aside0 (Below w.heap.size w wc))
      case first =>
       have H := HC19.out
       clear HC19
       by_cases c21 : (rd [t405, t406, t407, t408] x32_1) > ji8
       ·rw [if_pos c21] at H
        have c21b0 : decide (ji8 < (rd [t405, t406, t407, t408] x32_1)) = true := decide_eq_true c21
        clear c21
        (first | rw [c21b0] | (simp only [i64_w, i32_w]; rw [c21b0]) | skip)
        have c22b0 := eq_true (of_decide_eq_true tW_ : 0 ≤ x32_1)
        obtain ⟨ji23, hji23⟩ : ∃ j_ : Int, (shl .i64 1 x32_1) = j_ := ⟨_, rfl⟩
        replace H : (land_Slope.j1 k1 ji8 (Go.bits .or .i64 x10_1 (ji23)) (rd [t405, t406, t407, t408] x32_1) x32_1 t405 t406 t407 t408) = some (r1, r2, r3) := by first | (rw [hji23] at H; exact H) | (simp only [hji23] at H ⊢; exact H)
        have hji23_ : (IntKind.i64.wrap (1 * 2 ^ min x32_1.toNat 64)) = ji23 := hji23
        have hji23z : x32_1 ≤ 64 → (IntKind.i64.wrap (1 * 2 ^ x32_1.toNat)) = ji23 := shl_small hji23
        have hji23u : (IntKind.i64.wrap (2 ^ min x32_1.toNat 64)) = ji23 := by have h_ := hji23_; rw [Int.one_mul] at h_; exact h_
        have hji23v : x32_1 ≤ 64 → (IntKind.i64.wrap (2 ^ x32_1.toNat)) = ji23 := fun hle_ => by have h_ := hji23z hle_; rw [Int.one_mul] at h_; exact h_
        have hji23y : (wrap64 (1 * 2 ^ min x32_1.toNat 64)) = ji23 := (i64_w _).symm.trans hji23_
        have hji23x : x32_1 ≤ 64 → (wrap64 (1 * 2 ^ x32_1.toNat)) = ji23 := fun h_ => (i64_w _).symm.trans (hji23z h_)
        have H' := Aside0.mk H
        clear H
        go_wp2
        go_meet
        case rel => exact ⟨_, (Go.bits .or .i64 x10_1 (ji23)), (by first | rfl | (simp; done) | (simp only [← hji23]; rw [shl_one_small _ (by assumption) (by omega)]; done) | (simp only [← hji23] <;> (first | rfl | simp)) | (simp [*]; done) | (refine congrArg (Value.int .i64) ?_; unfold wrap64; omega) | (simp only [shl_one_small _ (by assumption) (by omega)]; done) | (simp [*]; rw [shl_one_small _ (by assumption) (by omega)]; done)), H', ⟨by have := HK1.out; first | omega | exact Nat.le_refl _⟩, ⟨dB_ BK403⟩, ⟨dB_ BK409⟩, ⟨dL2_ HB GE403 GE409⟩⟩
       ·rw [if_neg c21] at H
        have c21b0 : decide (ji8 < (rd [t405, t406, t407, t408] x32_1)) = false := decide_eq_false c21
        clear c21
        (first | rw [c21b0] | (simp only [i64_w, i32_w]; rw [c21b0]) | skip)
        have H' := Aside0.mk H
        clear H
        go_wp2
        go_meet
        case rel => exact ⟨_, (x10_1), tS_, H', ⟨by have := HK1.out; first | omega | exact Nat.le_refl _⟩, ⟨dB_ BK403⟩, ⟨dB_ BK409⟩, ⟨dL2_ HB GE403 GE409⟩⟩
      case rest =>
       clear HC19
       try clear c4
       try clear c4b0
       try clear c4b1
       try clear c17
       try clear c17b0
       try clear c18
       try clear c18b0
       try clear c21
       try clear hcz10_0
       try clear hcz10_1
       try clear hcz10_2
       try clear hcz12_0
       try clear hcz12_1
       try clear hcz12_2
       try clear hcz16_0
       try clear hcz16_1
       try clear hcz16_2
       try clear hcz16_3
       try clear hfz10_0
       try clear hfz10_1
       try clear hfz10_2
       try clear hfz12_0
       try clear hfz12_1
       try clear hfz12_2
       try clear hfz16_0
       try clear hfz16_1
       try clear hfz16_2
       try clear hfz16_3
       obtain ⟨kq, x10_18, rfl, HA, HJ18, BK403, BK409, HB⟩ := hcut
       cases kq with
       | zero => exact absurd HA.out (by simp [land_Slope.j1])
       | succ kj18 =>
        have H := HA.out
        clear HA
        simp only [land_Slope.j1] at H
        by_cases c24 : (rd [t405, t406, t407, t408] x32_1) > (wrap64 (ji8 + 1))
        ·rw [if_pos c24] at H
         have c24b0 : decide ((wrap64 (ji8 + 1)) < (rd [t405, t406, t407, t408] x32_1)) = true := decide_eq_true c24
         clear c24
         have H' := Aside0.mk H
         clear H
         go_wp2
         go_roundg kj18
         case measure => have := HK1.out; have := HJ18.out; omega
         case rel => exact ⟨(Go.bits .or .i64 x10_18 16), (wrap64 (x32_1 + 1)), tS_, tS_, H', ⟨by have := HK1.out; have := HJ18.out; omega⟩, ⟨dB_ BK403⟩, ⟨dB_ BK409⟩, ⟨dL2_ HB GE403 GE409⟩⟩
        ·rw [if_neg c24] at H
         have c24b0 : decide ((wrap64 (ji8 + 1)) < (rd [t405, t406, t407, t408] x32_1)) = false := decide_eq_false c24
         clear c24
         have H' := Aside0.mk H
         clear H
         go_wp2
         go_roundg kj18
         case measure => have := HK1.out; have := HJ18.out; omega
         case rel => exact ⟨(x10_18), (wrap64 (x32_1 + 1)), tS_, tS_, H', ⟨by have := HK1.out; have := HJ18.out; omega⟩, ⟨dB_ BK403⟩, ⟨dB_ BK409⟩, ⟨dL2_ HB GE403 GE409⟩⟩
     ·rw [if_neg c18] at H
      exact absurd H (by simp)
    ·rw [if_neg c17] at H
     have c17b0 : decide (x32_1 < 4) = false := decide_eq_false c17
     clear c17
     simp only [Option.some.injEq, Prod.mk.injEq] at H
     obtain ⟨rfl, rfl, rfl⟩ := H
     go_wp2
     go_ret3
     exact ⟨by first | rfl | (simp [errW_none, errW_some] <;> rfl) | (simp only [← hji6, ← hji7, ← hji8]; first | rfl | (simp [errW_none, errW_some] <;> rfl)) | (simp [*, errW_none, errW_some] <;> rfl), dL2_ HB GE403 GE409⟩
 ·rw [if_neg c4] at H
  have c4b0 : (t404 == 0) = false := beq_eq_false_iff_ne.mpr c4
  have c4b1 : (t404 != 0) = true := bne_iff_ne.mpr c4
  simp only [Option.some.injEq, Prod.mk.injEq] at H
  obtain ⟨rfl, rfl, rfl⟩ := H
  go_enter Try.func27, Try.ntmps27
  go_wp2_with (first | ((with_reducible refine gate_dst (N := 2) rfl ?_); refine box_event ?hg (N := 2) ?hd (cs := #[.int .i64 a0_0, .int .i64 a0_1, .slice A0_2 l0_2.length c0_2]) (t := 24) ?hr ?_; (case hd => rfl); (case hg => rfl); (case hr => first | (go_simp; done) | (go_simp; rfl)); intro gb403 hg w25 hbox hb; have BK403 := Aside0.mk (hbox); have GW403 := Aside0.mk ((dS_ hg (dL_ HB) : w.heap.size ≤ gb403)); have GE403 := Aside0.mk ((dS_ hg (dL_ HB) : w.heap.size ≤ gb403)); replace HB := Aside0.mk (below_step (dL_ HB) hb); clear hb hbox hg; obtain ⟨hcz26_0, hcz26_1, hcz26_2, hfz26_0, hfz26_1, hfz26_2⟩ := cs3_ BK403.out) | ((with_reducible refine gate_callee (f := 50) rfl ?_); refine goesL_ (some 15) rfl rfl Try.func50 (by kernel_rfl) rfl #[.agg #[.int .i64 a0_0, .int .i64 a0_1, .slice A0_2 l0_2.length c0_2], .int .i64 a1] rfl tA_ ?_; (with_reducible refine (land_check.calls k a0_0 a0_1 _ _ l0_2 a1 t404 _ ?side1 ?side2 A3.out).mono ?_); (case side1 => exact dC_ HR0_2 HB); (case side2 => exact HC0_2.out); rintro e w27 ⟨rfl, hb⟩; refine ⟨_, rfl, ?_⟩; replace BK403 := Aside0.mk (blk_below (g := gb403) (o := .cells #[.int .i64 a0_0, .int .i64 a0_1, .slice A0_2 l0_2.length c0_2] 24 (0, 0)) (dB_ BK403) hb); replace HB := Aside0.mk (below_step (dL1_ HB GE403) hb)))
  go_ret3
  exact ⟨tE_, dL1_ HB GE403⟩

end Go.Proofs.Ytchflcnegpnkkaa.Q
