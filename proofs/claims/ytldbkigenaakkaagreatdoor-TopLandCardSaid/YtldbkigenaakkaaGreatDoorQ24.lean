-- PRINTED by print.py out of the translation. Not trusted: Lean checks it.
import Derived.Test.YtldbkigenaakkaaGreatDoorPrs
import Derived.Test.YtldbkigenaakkaaGreatDoorQ0
import Derived.Test.YtldbkigenaakkaaGreatDoorQ17
namespace Go.Proofs.YtldbkigenaakkaaGreatDoor.Q
open Go.RowKit Go.Proofs.YtldbkigenaakkaaGreatDoorPrs Go.Proofs.YtldbkigenaakkaaGreatDoorOwn Go.Proofs.YtldbkigenaakkaaGreatDoorW.PrintWords Go.Proofs.YtldbkigenaakkaaGreatDoorW.PrintLast Go.Proofs.YtldbkigenaakkaaGreatDoorW.PrintMore
open List renaming setIfInBounds_toArray → sI_, set_cons_zero → s0_, set_cons_succ → sS_
attribute [local go_sem] max2_int min2_int max_two min_two max_three min_three max_four min_four   -- for this text's walks alone
set_option linter.unusedVariables false
set_option linter.unusedSimpArgs false

/-! ### land_River: function 13 -/
mutual
def land_River.l0 : Nat → Int → List Int → Int → Int → List Int → Option (List Int × Int)
  | 0, _, _, _, _, _ => none
  | k + 1, x1, x7, x264000, x264001, x264002 => (land_wet.f x264000 x264001 x264002 x1).bind fun t268 => (if t268 = true then (some (x7, 0)) else (land_River.l1 k x1 x7 (-1) 0 x264000 x264001 x264002))
def land_River.l1 : Nat → Int → List Int → Int → Int → Int → Int → List Int → Option (List Int × Int)
  | 0, _, _, _, _, _, _, _ => none
  | k + 1, x1, x7, x8, x23, x264000, x264001, x264002 => if x23 < 4 then ((land_step.f k x264000 x264001 x264002 x1 x23).bind fun t269 => (if t269 ≥ 0 then ((land_sum.f x264000 x264001 x264002 t269).bind fun t270 => ((land_sum.f x264000 x264001 x264002 x1).bind fun t271 => (if t270 < t271 then (if x8 < 0 then (land_River.j2 k x1 x7 x8 t269 x23 true x264000 x264001 x264002) else ((land_sum.f x264000 x264001 x264002 t269).bind fun t272 => ((land_sum.f x264000 x264001 x264002 x8).bind fun t273 => (land_River.j2 k x1 x7 x8 t269 x23 (decide (t272 < t273)) x264000 x264001 x264002)))) else (land_River.j2 k x1 x7 x8 t269 x23 false x264000 x264001 x264002)))) else (land_River.j2 k x1 x7 x8 t269 x23 false x264000 x264001 x264002))) else (if x8 < 0 then (some (x7, 0)) else (if x7.length < 17592186044416 then (land_River.l0 k x8 (x7 ++ [x8]) x264000 x264001 x264002) else (none)))
def land_River.j2 : Nat → Int → List Int → Int → Int → Int → Bool → Int → Int → List Int → Option (List Int × Int)
  | 0, _, _, _, _, _, _, _, _, _ => none
  | k + 1, x1, x7, x8, x10, x23, x53, x264000, x264001, x264002 => if x53 = true then (land_River.l1 k x1 x7 x10 (wrap64 (x23 + 1)) x264000 x264001 x264002) else (land_River.l1 k x1 x7 x8 (wrap64 (x23 + 1)) x264000 x264001 x264002)
end
def land_River.f (k : Nat) (a0_0 : Int) (a0_1 : Int) (l0_2 : List Int) (a1 : Int) : Option (List Int × Int) := (land_check.f k a0_0 a0_1 l0_2 a1).bind fun t264 => (if t264 = 0 then (land_River.l0 k a1 (([a1] : List Int)) a0_0 a0_1 l0_2) else (some (([] : List Int), t264)))
theorem land_River.mono_l : ∀ k, (∀ y0 y1 y2 y3 y4, LeO (land_River.l0 k y0 y1 y2 y3 y4) (land_River.l0 (k + 1) y0 y1 y2 y3 y4)) ∧ (∀ y0 y1 y2 y3 y4 y5 y6, LeO (land_River.l1 k y0 y1 y2 y3 y4 y5 y6) (land_River.l1 (k + 1) y0 y1 y2 y3 y4 y5 y6)) ∧ (∀ y0 y1 y2 y3 y4 y5 y6 y7 y8, LeO (land_River.j2 k y0 y1 y2 y3 y4 y5 y6 y7 y8) (land_River.j2 (k + 1) y0 y1 y2 y3 y4 y5 y6 y7 y8))
  | 0 => ⟨fun _ _ _ _ _ r h => by simp [land_River.l0] at h, fun _ _ _ _ _ _ _ r h => by simp [land_River.l1] at h, fun _ _ _ _ _ _ _ _ _ r h => by simp [land_River.j2] at h⟩
  | k + 1 => by
    obtain ⟨ih0, ih1, ih2⟩ := land_River.mono_l k; refine ⟨?_, ?_, ?_⟩
    · intro y0 y1 y2 y3 y4
      unfold land_River.l0
      repeat' first
      | (with_reducible first | apply ih0 | apply ih1 | apply ih2 | apply land_check.mono | apply land_step.mono | exact LeO.refl _ | exact LeO.none _ | refine LeO.ite ?_ ?_ | refine LeO.bind ?_ (fun _ => ?_))
    · intro y0 y1 y2 y3 y4 y5 y6
      unfold land_River.l1
      repeat' first
      | (with_reducible first | apply ih0 | apply ih1 | apply ih2 | apply land_check.mono | apply land_step.mono | exact LeO.refl _ | exact LeO.none _ | refine LeO.ite ?_ ?_ | refine LeO.bind ?_ (fun _ => ?_))
    · intro y0 y1 y2 y3 y4 y5 y6 y7 y8
      unfold land_River.j2
      repeat' first
      | (with_reducible first | apply ih0 | apply ih1 | apply ih2 | apply land_check.mono | apply land_step.mono | exact LeO.refl _ | exact LeO.none _ | refine LeO.ite ?_ ?_ | refine LeO.bind ?_ (fun _ => ?_))
theorem land_River.mono : ∀ a0 a1 a2 a3 k, LeO (land_River.f k a0 a1 a2 a3) (land_River.f (k + 1) a0 a1 a2 a3) := by
  intro a0 a1 a2 a3 k; obtain ⟨ih0, ih1, ih2⟩ := land_River.mono_l k
  unfold land_River.f
  repeat' first
      | (with_reducible first | apply ih0 | apply ih1 | apply ih2 | apply land_check.mono | apply land_step.mono | exact LeO.refl _ | exact LeO.none _ | refine LeO.ite ?_ ?_ | refine LeO.bind ?_ (fun _ => ?_))
def land_River.T11 : Bool × List (List Nat × List Nat) := (true, [([], []), ([0], [0]), ([1], [1]), ([2], [2]), ([2], [2]), ([3, 4, 2, 2], [2, 3, 4]), ([2], [2]), ([2], [2]), ([6, 7, 5, 2], [2, 6, 7]), ([5, 8, 2], [2, 5, 8]), ([2, 9], [2, 9]), ([10, 8], [10]), ([11], [11]), ([12, 11], [11, 12]), ([13, 11, 11], [11, 13]), ([14], [14]), ([14], [14]), ([15, 16, 14, 14], [14, 15, 16]), ([14], [14]), ([14], [14]), ([18, 19, 17, 14], [14, 18, 19]), ([17, 20, 14], [14, 17, 20]), ([14, 21, 11], [11, 14, 21]), ([11, 22], [11, 22])])
def land_River.B11 : List Nat := [0, 1, 3, 7, 7, 31, 7, 7, 255, 511, 1023, 2047, 4095, 8191, 16383, 32767, 32767, 131071, 32767, 32767, 1048575, 2097151, 4194303, 8388607]
theorem land_River.tab11 : rtab .any (opsOf Tryz.f13 11) = land_River.T11 := by kernel_rfl
theorem land_River.bits11 : waitsOk land_River.T11.2 land_River.B11 = true := by kernel_rfl
set_option maxHeartbeats 8000000 in
set_option maxRecDepth 100000 in
theorem land_River.calls (k : Nat) (a0_0 : Int) (a0_1 : Int) (A0_2 : Option Addr) (c0_2 : Nat) (l0_2 : List Int) (a1 : Int) (r1 : List Int) (r2 : Int) (w : World) (hr0_2 : Kd.C (Kd.int .i64) w A0_2 l0_2.length l0_2) (hc0_2 : l0_2.length ≤ c0_2) (h : land_River.f k a0_0 a0_1 l0_2 a1 = some (r1, r2)) :
    Calls Tryz.prog 13 #[.agg #[.int .i64 a0_0, .int .i64 a0_1, .slice A0_2 l0_2.length c0_2], .int .i64 a1] w fun e w' => ∃ v0_ : Value, e = .returned (.tuple #[v0_, .int .i64 r2]) ∧ Kd.R (Kd.int .i64) 3 w' w.heap.size (fun _ => True) v0_ r1 ∧ Below w.heap.size w w' := by
 have hu26 := Tryz.underlying26; have HR0_2 := Aside0.mk hr0_2; have HC0_2 := Aside0.mk hc0_2; clear hr0_2 hc0_2; have HB := Aside0.mk (Below.refl w.heap.size w); have H : ((land_check.f k a0_0 a0_1 l0_2 a1).bind fun t264 => (if t264 = 0 then (land_River.l0 k a1 (([a1] : List Int)) a0_0 a0_1 l0_2) else (some (([] : List Int), t264)))) = some (r1, r2) := h; clear h; replace H := Option.bind_eq_some_iff.mp H; obtain ⟨t264, A30, H⟩ := H; have A3 := Aside0.mk A30; clear A30
 by_cases c4 : t264 = 0
 ·rw [if_pos c4] at H; have c4b0 : (t264 == 0) = true := beq_iff_eq.mpr c4; have c4b1 : (t264 != 0) = false := bne_eq_false_iff_eq.mpr c4; clear c4; obtain ⟨y265, hy265⟩ : ∃ y_ : List Int, y_ = (([a1] : List Int)) := ⟨_, rfl⟩; replace H : (land_River.l0 k a1 y265 a0_0 a0_1 l0_2) = some (r1, r2) := by first | (rw [hy265]; with_reducible exact H) | (have H2_ := (Option.bind_some _ _).symm.trans H; rw [hy265]; with_reducible exact H2_) | (have H2_ := (Option.bind_some _ _).symm.trans H; with_reducible exact H2_) | with_reducible exact H | (rw [hy265]; exact H) | exact H
  have Ny265 := Aside0.mk hy265; clear hy265; have H' := Aside0.mk H; clear H
  go_enter Tryz.func13, Tryz.ntmps13
  go_wp2_with (first | ((with_reducible refine gate_dst (N := 2) rfl ?_); refine bx_ (N := 2) (cs := #[.int .i64 a0_0, .int .i64 a0_1, .slice A0_2 l0_2.length c0_2]) (t := 26) ?_; intro gb263 hg w5 hbox hb; have BK263 := Aside0.mk (hbox); have GW263 := Aside0.mk ((dS_ hg (dL_ HB) : w.heap.size ≤ gb263)); have GE263 := GW263; replace HB := Aside0.mk (below_step (dL_ HB) hb); clear hb hbox hg; obtain ⟨z6a, z6b, z6c, y6a, y6b, y6c⟩ := cs3_ BK263.out) | ((with_reducible refine gate_callee (f := 28) rfl ?_); refine gL_ (some 13) Tryz.func28 #[.agg #[.int .i64 a0_0, .int .i64 a0_1, .slice A0_2 l0_2.length c0_2], .int .i64 a1] ?_ rfl; (with_reducible refine (land_check.calls k a0_0 a0_1 _ _ l0_2 a1 t264 _ ?side1 ?side2 A3.out).mono ?_); (case side1 => exact dC_ HR0_2 HB); (case side2 => exact HC0_2.out); rintro e w7 ⟨rfl, hb⟩; refine ⟨_, rfl, ?_⟩; replace BK263 := bk_ BK263 hb; replace HB := Aside0.mk (below_step (dL1_ HB GE263) hb)) | ((with_reducible refine gate_dst (N := 18) rfl ?_); refine li1_ (N := 18) 3 a1 ?_; intro v266 w8 ho9 hb; (first | rw [← Ny265.out] at ho9 | (simp only [Int.reduceToNat] at ho9; rw [← Ny265.out] at ho9)); have HO267 := Aside0.mk (Kd.R_lower ho9 (below_size (dL1_ HB GE263))); replace BK263 := bk_ BK263 hb; replace HB := Aside0.mk (below_step (dL1_ HB GE263) hb); clear hb ho9))
  go_loopg [1, 7] k (fun kq v1 v7 w' => ∃ (x1_1 : Int) (x7_1 : List Int), v1 = .int .i64 x1_1 ∧ Aside0 (land_River.l0 kq x1_1 x7_1 a0_0 a0_1 l0_2 = some (r1, r2)) ∧ Aside0 (kq ≤ k) ∧ Aside0 (Kd.R (Kd.int .i64) 3 w' w.heap.size (fun _ => True) v7 x7_1) ∧ Aside0 (w'.heap[gb263]? = some (.cells #[.int .i64 a0_0, .int .i64 a0_1, (.slice A0_2 l0_2.length c0_2)] 26 (0, 0))) ∧ Aside0 (Below w.heap.size w w'))
  case atStart => exact ⟨(a1), (y265), tS_, H', ⟨Nat.le_refl _⟩, ⟨dR_ HO267⟩, ⟨dB_ BK263⟩, ⟨dL1_ HB GE263⟩⟩
  case round =>
   clear H'; (try clear c4); (try clear c4b0); (try clear c4b1); (try clear z6a z6b z6c y6a y6b y6c); obtain ⟨x1_1, x7_1, rfl, HA, HK1, HO_7, BK263, HB⟩ := hrel
   cases gk with
   | zero => exact absurd HA.out (by simp [land_River.l0])
   | succ k1 =>
    have H := HA.out; clear HA; simp only [land_River.l0] at H; replace H := Option.bind_eq_some_iff.mp H; obtain ⟨t268, A100, H⟩ := H; have A10 := Aside0.mk A100; clear A100
    by_cases c11 : t268 = true
    ·subst c11; rw [if_pos rfl] at H; simp only [Option.some.injEq, Prod.mk.injEq] at H; obtain ⟨rfl, rfl⟩ := H; obtain ⟨z12a, z12b, z12c, y12a, y12b, y12c⟩ := cs3_ BK263.out
     go_wp2_with (first | ((with_reducible refine gate_callee (f := 29) rfl ?_); refine gL_ (some 21) Tryz.func29 #[.agg #[.int .i64 a0_0, .int .i64 a0_1, .slice A0_2 l0_2.length c0_2], .int .i64 x1_1] ?_ rfl; (with_reducible refine (land_wet.calls a0_0 a0_1 _ _ l0_2 x1_1 true _ ?side1 ?side2 A10.out).mono ?_); (case side1 => exact dC_ HR0_2 HB); (case side2 => exact HC0_2.out); rintro e w13 ⟨rfl, hb⟩; refine ⟨_, rfl, ?_⟩; replace HO_7 := Aside0.mk (Kd.R_below (dR_ HO_7) hb); replace BK263 := bk_ BK263 hb; replace HB := Aside0.mk (below_step (dL1_ HB GE263) hb)))
     go_ret2
     exact ⟨_, tE_, dR_ HO_7, dL1_ HB GE263⟩
    ·replace c11 := Bool.eq_false_iff.mpr c11; subst c11; rw [if_neg (show ¬ (false = true) by decide)] at H; have H' := Aside0.mk H; clear H; obtain ⟨z14a, z14b, z14c, y14a, y14b, y14c⟩ := cs3_ BK263.out
     go_wp2_with (first | ((with_reducible refine gate_callee (f := 29) rfl ?_); refine gL_ (some 21) Tryz.func29 #[.agg #[.int .i64 a0_0, .int .i64 a0_1, .slice A0_2 l0_2.length c0_2], .int .i64 x1_1] ?_ rfl; (with_reducible refine (land_wet.calls a0_0 a0_1 _ _ l0_2 x1_1 false _ ?side1 ?side2 A10.out).mono ?_); (case side1 => exact dC_ HR0_2 HB); (case side2 => exact HC0_2.out); rintro e w15 ⟨rfl, hb⟩; refine ⟨_, rfl, ?_⟩; replace HO_7 := Aside0.mk (Kd.R_below (dR_ HO_7) hb); replace BK263 := bk_ BK263 hb; replace HB := Aside0.mk (below_step (dL1_ HB GE263) hb)))
     go_loopg [8, 23] k1 (fun kq v8 v23 w' => ∃ (x8_2 : Int) (x23_2 : Int), v8 = .int .i64 x8_2 ∧ v23 = .int .i64 x23_2 ∧ Aside0 (land_River.l1 kq x1_1 x7_1 x8_2 x23_2 a0_0 a0_1 l0_2 = some (r1, r2)) ∧ Aside0 (kq ≤ k1) ∧ Aside0 (Kd.R (Kd.int .i64) 3 w' w.heap.size (fun _ => True) u7 x7_1) ∧ Aside0 (w'.heap[gb263]? = some (.cells #[.int .i64 a0_0, .int .i64 a0_1, (.slice A0_2 l0_2.length c0_2)] 26 (0, 0))) ∧ Aside0 (Below w.heap.size w w'))
     case atStart => exact ⟨((-1)), (0), tS_, tS_, H', ⟨Nat.le_refl _⟩, ⟨dR_ HO_7⟩, ⟨dB_ BK263⟩, ⟨dL1_ HB GE263⟩⟩
     case round =>
      clear H'; (try clear c4); (try clear c4b0); (try clear c4b1); (try clear c11); (try clear z14a z14b z14c y14a y14b y14c); (try clear z6a z6b z6c y6a y6b y6c); obtain ⟨x8_2, x23_2, rfl, rfl, HA, HK2, HO_7, BK263, HB⟩ := hrel
      cases gk with
      | zero => exact absurd HA.out (by simp [land_River.l1])
      | succ k2 =>
       have H := HA.out; clear HA; simp only [land_River.l1] at H
       by_cases c16 : x23_2 < 4
       ·rw [if_pos c16] at H; have c16b0 : decide (x23_2 < 4) = true := decide_eq_true c16; clear c16; replace H := Option.bind_eq_some_iff.mp H; obtain ⟨t269, A170, H⟩ := H; have A17 := Aside0.mk A170; clear A170; have HC18 := Aside0.mk H; clear H; obtain ⟨z19a, z19b, z19c, y19a, y19b, y19c⟩ := cs3_ BK263.out
        go_upto_region 11 with (first | ((with_reducible refine gate_callee (f := 30) rfl ?_); refine gL_ (some 29) Tryz.func30 #[.agg #[.int .i64 a0_0, .int .i64 a0_1, .slice A0_2 l0_2.length c0_2], .int .i64 x1_1, .int .i64 x23_2] ?_ rfl; (with_reducible refine (land_step.calls k2 a0_0 a0_1 _ _ l0_2 x1_1 x23_2 t269 _ ?side1 ?side2 A17.out).mono ?_); (case side1 => exact dC_ HR0_2 HB); (case side2 => exact HC0_2.out); rintro e w20 ⟨rfl, hb⟩; refine ⟨_, rfl, ?_⟩; replace HO_7 := Aside0.mk (Kd.R_below (dR_ HO_7) hb); replace BK263 := bk_ BK263 hb; replace HB := Aside0.mk (below_step (dL1_ HB GE263) hb)))
        (try simp only [Act.put, sI_, s0_, sS_])
        go_cut [53] (fun v53 wc => ∃ (kq : Nat) (x53_17 : Bool), v53 = .bool x53_17 ∧ Aside0 (land_River.j2 kq x1_1 x7_1 x8_2 t269 x23_2 x53_17 a0_0 a0_1 l0_2 = some (r1, r2)) ∧ Aside0 (kq ≤ k2) ∧ Aside0 (Kd.R (Kd.int .i64) 3 wc w.heap.size (fun _ => True) u7 x7_1) ∧ Aside0 (wc.heap[gb263]? = some (.cells #[.int .i64 a0_0, .int .i64 a0_1, (.slice A0_2 l0_2.length c0_2)] 26 (0, 0))) ∧ Aside0 (Below w.heap.size w wc))
        case first =>
         have H := HC18.out; clear HC18
         by_cases c21 : t269 ≥ 0
         ·rw [if_pos c21] at H; have c21b0 : decide (0 ≤ t269) = true := decide_eq_true c21; clear c21
          (first | rw [c21b0] | (simp only [i64_w, i32_w]; rw [c21b0]) | skip)
          replace H := Option.bind_eq_some_iff.mp H; obtain ⟨t270, A220, H⟩ := H; have A22 := Aside0.mk A220; clear A220; replace H := Option.bind_eq_some_iff.mp H; obtain ⟨t271, A230, H⟩ := H; have A23 := Aside0.mk A230; clear A230
          by_cases c24 : t270 < t271
          ·rw [if_pos c24] at H; have c24b0 : decide (t270 < t271) = true := decide_eq_true c24; clear c24
           by_cases c25 : x8_2 < 0
           ·rw [if_pos c25] at H; have c25b0 : decide (x8_2 < 0) = true := decide_eq_true c25; clear c25; have H' := Aside0.mk H; clear H
            try go_wp2
            replace HO_7 := Aside0.mk (Kd.R_drew HO_7.out); replace BK263 := Aside0.mk (blk_drew BK263.out); replace HB := Aside0.mk (below_drew1 HB.out); refine start_ (n := 24) (S := fun w' => w'.cell? ⟨gb263, 0, none⟩ = some (.int .i64 a0_0) ∧ w'.cell? ⟨gb263, 1, none⟩ = some (.int .i64 a0_1) ∧ w'.cell? ⟨gb263, 2, none⟩ = some (.slice A0_2 l0_2.length c0_2)) (ds := []) ⟨bN 24 0⟩ (by kernel_rfl) rfl rfl ⟨(blk_cell BK263.out 0).trans rfl, (blk_cell BK263.out 1).trans rfl, (blk_cell BK263.out 2).trans rfl⟩ (fun hHeld => ?_); refine with_tabW land_River.tab11 land_River.bits11 (fun HT_ HW_ => ?_)
            generalize w20.drew = w26 at HO_7 BK263 HB hHeld ⊢; refine pu_ (i := 0) (N := some 30) (bA 1 24) HT_ rfl ?_; refine pu_ (i := 1) (N := some 31) (bA 2 24) HT_ rfl ?_; refine pu_ (i := 2) (N := some 32) (bA 3 24) HT_ rfl ?_; refine pu_ (i := 4) (N := some 34) ⟨bN 24 23⟩ HT_ rfl ?_; refine pu_ (i := 7) (N := some 37) ⟨bN 24 151⟩ HT_ rfl ?_; refine tk_ (i := 3) (N := some 33) ⟨bN 24 159⟩ HT_ HW_ hHeld rfl ?_; refine tk_ (i := 6) (N := some 36) ⟨bN 24 223⟩ HT_ HW_ hHeld rfl ?_; refine on_ (i := 5) (N := some 35) (bA 8 24) HT_ rfl (fun K hK => ?_); refine goes_ Tryz.func31 (by kernel_rfl) rfl #[.agg #[.int .i64 a0_0, .int .i64 a0_1, .slice A0_2 l0_2.length c0_2], .int .i64 t269] (by rfl) rfl rfl tA_ ?_
            with_reducible refine (land_sum.calls a0_0 a0_1 _ _ l0_2 t269 t270 _ ?side1 ?side2 A22.out).mono ?_
            (case side1 => exact dC_ HR0_2 HB)
            (case side2 => exact HC0_2.out)
            rintro e w27 ⟨rfl, hb⟩; refine ⟨_, rfl, ?_⟩; replace HO_7 := Aside0.mk (Kd.R_below (dR_ HO_7) hb); replace BK263 := bk_ BK263 hb; replace HB := Aside0.mk (below_step (dL1_ HB GE263) hb); (try clear hb); (try clear hb2); (try clear hk); (try clear hi); refine hK.out _ _ ⟨(blk_cell BK263.out 0).trans rfl, (blk_cell BK263.out 1).trans rfl, (blk_cell BK263.out 2).trans rfl⟩ (fun hHeld => ?_); clear hK K; refine norm_ (a' := ?_) ?_ ?_
            rotate_left
            ·show Act.put _ (some 35) _ = _
             simp only [Act.put, sI_, s0_, sS_, i64_w, i32_w]
             rfl
            refine on_ (i := 8) (N := some 38) (bA 9 24) HT_ rfl (fun K hK => ?_); refine goes_ Tryz.func31 (by kernel_rfl) rfl #[.agg #[.int .i64 a0_0, .int .i64 a0_1, .slice A0_2 l0_2.length c0_2], .int .i64 x1_1] (by rfl) rfl rfl tA_ ?_
            with_reducible refine (land_sum.calls a0_0 a0_1 _ _ l0_2 x1_1 t271 _ ?side1 ?side2 A23.out).mono ?_
            (case side1 => exact dC_ HR0_2 HB)
            (case side2 => exact HC0_2.out)
            rintro e w28 ⟨rfl, hb⟩; refine ⟨_, rfl, ?_⟩; replace HO_7 := Aside0.mk (Kd.R_below (dR_ HO_7) hb); replace BK263 := bk_ BK263 hb; replace HB := Aside0.mk (below_step (dL1_ HB GE263) hb); (try clear hb); (try clear hb2); (try clear hk); (try clear hi); refine hK.out _ _ ⟨(blk_cell BK263.out 0).trans rfl, (blk_cell BK263.out 1).trans rfl, (blk_cell BK263.out 2).trans rfl⟩ (fun hHeld => ?_); clear hK K; refine norm_ (a' := ?_) ?_ ?_
            rotate_left
            ·show Act.put _ (some 38) _ = _
             simp only [Act.put, sI_, s0_, sS_, i64_w, i32_w]
             rfl
            refine pu_ (i := 9) (N := some 39) (bA 10 24) HT_ rfl ?_; refine pu_ (i := 10) (N := some 40) (bA 11 24) HT_ rfl ?_; refine pu_ (i := 11) (N := some 41) (bA 12 24) HT_ rfl ?_; refine pu_ (i := 12) (N := some 42) (bA 13 24) HT_ rfl ?_; refine pu_ (i := 13) (N := some 43) (bA 14 24) HT_ rfl ?_; refine pu_ (i := 14) (N := some 44) (bA 15 24) HT_ rfl ?_; refine pn_ (i := 15) (N := some 45) (bA 16 24) HT_ rfl ?_; refine pn_ (i := 16) (N := some 46) (bA 17 24) HT_ rfl ?_; refine pn_ (i := 17) (N := some 47) (bA 18 24) HT_ rfl ?_; refine pn_ (i := 18) (N := some 48) (bA 19 24) HT_ rfl ?_; refine pn_ (i := 19) (N := some 49) (bA 20 24) HT_ rfl ?_; refine pn_ (i := 20) (N := some 50) (bA 21 24) HT_ rfl ?_; refine pn_ (i := 21) (N := some 51) (bA 22 24) HT_ rfl ?_; refine pu_ (i := 22) (N := some 52) (bA 23 24) HT_ rfl ?_; refine pu_ (i := 23) (N := some 53) (bA 24 24) HT_ rfl ?_; refine done_ (done_of HT_.out (by kernel_rfl)) ?_
            try go_wp2
            go_meet
            case rel => exact ⟨_, (true), tS_, H', ⟨by have := HK1.out; have := HK2.out; first | omega | exact Nat.le_refl _⟩, ⟨dR_ HO_7⟩, ⟨dB_ BK263⟩, ⟨dL1_ HB GE263⟩⟩
           ·rw [if_neg c25] at H; have c25b0 : decide (x8_2 < 0) = false := decide_eq_false c25; clear c25; replace H := Option.bind_eq_some_iff.mp H; obtain ⟨t272, A290, H⟩ := H; have A29 := Aside0.mk A290; clear A290; replace H := Option.bind_eq_some_iff.mp H; obtain ⟨t273, A300, H⟩ := H; have A30 := Aside0.mk A300; clear A300; have H' := Aside0.mk H; clear H
            try go_wp2
            replace HO_7 := Aside0.mk (Kd.R_drew HO_7.out); replace BK263 := Aside0.mk (blk_drew BK263.out); replace HB := Aside0.mk (below_drew1 HB.out); refine start_ (n := 24) (S := fun w' => w'.cell? ⟨gb263, 0, none⟩ = some (.int .i64 a0_0) ∧ w'.cell? ⟨gb263, 1, none⟩ = some (.int .i64 a0_1) ∧ w'.cell? ⟨gb263, 2, none⟩ = some (.slice A0_2 l0_2.length c0_2)) (ds := []) ⟨bN 24 0⟩ (by kernel_rfl) rfl rfl ⟨(blk_cell BK263.out 0).trans rfl, (blk_cell BK263.out 1).trans rfl, (blk_cell BK263.out 2).trans rfl⟩ (fun hHeld => ?_); refine with_tabW land_River.tab11 land_River.bits11 (fun HT_ HW_ => ?_)
            generalize w20.drew = w31 at HO_7 BK263 HB hHeld ⊢; refine pu_ (i := 0) (N := some 30) (bA 1 24) HT_ rfl ?_; refine pu_ (i := 1) (N := some 31) (bA 2 24) HT_ rfl ?_; refine pu_ (i := 2) (N := some 32) (bA 3 24) HT_ rfl ?_; refine pu_ (i := 4) (N := some 34) ⟨bN 24 23⟩ HT_ rfl ?_; refine pu_ (i := 7) (N := some 37) ⟨bN 24 151⟩ HT_ rfl ?_; refine tk_ (i := 3) (N := some 33) ⟨bN 24 159⟩ HT_ HW_ hHeld rfl ?_; refine tk_ (i := 6) (N := some 36) ⟨bN 24 223⟩ HT_ HW_ hHeld rfl ?_; refine on_ (i := 5) (N := some 35) (bA 8 24) HT_ rfl (fun K hK => ?_); refine goes_ Tryz.func31 (by kernel_rfl) rfl #[.agg #[.int .i64 a0_0, .int .i64 a0_1, .slice A0_2 l0_2.length c0_2], .int .i64 t269] (by rfl) rfl rfl tA_ ?_
            with_reducible refine (land_sum.calls a0_0 a0_1 _ _ l0_2 t269 t270 _ ?side1 ?side2 A22.out).mono ?_
            (case side1 => exact dC_ HR0_2 HB)
            (case side2 => exact HC0_2.out)
            rintro e w32 ⟨rfl, hb⟩; refine ⟨_, rfl, ?_⟩; replace HO_7 := Aside0.mk (Kd.R_below (dR_ HO_7) hb); replace BK263 := bk_ BK263 hb; replace HB := Aside0.mk (below_step (dL1_ HB GE263) hb); (try clear hb); (try clear hb2); (try clear hk); (try clear hi); refine hK.out _ _ ⟨(blk_cell BK263.out 0).trans rfl, (blk_cell BK263.out 1).trans rfl, (blk_cell BK263.out 2).trans rfl⟩ (fun hHeld => ?_); clear hK K; refine norm_ (a' := ?_) ?_ ?_
            rotate_left
            ·show Act.put _ (some 35) _ = _
             simp only [Act.put, sI_, s0_, sS_, i64_w, i32_w]
             rfl
            refine on_ (i := 8) (N := some 38) (bA 9 24) HT_ rfl (fun K hK => ?_); refine goes_ Tryz.func31 (by kernel_rfl) rfl #[.agg #[.int .i64 a0_0, .int .i64 a0_1, .slice A0_2 l0_2.length c0_2], .int .i64 x1_1] (by rfl) rfl rfl tA_ ?_
            with_reducible refine (land_sum.calls a0_0 a0_1 _ _ l0_2 x1_1 t271 _ ?side1 ?side2 A23.out).mono ?_
            (case side1 => exact dC_ HR0_2 HB)
            (case side2 => exact HC0_2.out)
            rintro e w33 ⟨rfl, hb⟩; refine ⟨_, rfl, ?_⟩; replace HO_7 := Aside0.mk (Kd.R_below (dR_ HO_7) hb); replace BK263 := bk_ BK263 hb; replace HB := Aside0.mk (below_step (dL1_ HB GE263) hb); (try clear hb); (try clear hb2); (try clear hk); (try clear hi); refine hK.out _ _ ⟨(blk_cell BK263.out 0).trans rfl, (blk_cell BK263.out 1).trans rfl, (blk_cell BK263.out 2).trans rfl⟩ (fun hHeld => ?_); clear hK K; refine norm_ (a' := ?_) ?_ ?_
            rotate_left
            ·show Act.put _ (some 38) _ = _
             simp only [Act.put, sI_, s0_, sS_, i64_w, i32_w]
             rfl
            refine pu_ (i := 9) (N := some 39) (bA 10 24) HT_ rfl ?_; refine pu_ (i := 10) (N := some 40) (bA 11 24) HT_ rfl ?_; refine pu_ (i := 11) (N := some 41) (bA 12 24) HT_ rfl ?_; refine pu_ (i := 12) (N := some 42) (bA 13 24) HT_ rfl ?_; refine pu_ (i := 13) (N := some 43) (bA 14 24) HT_ rfl ?_; refine pu_ (i := 14) (N := some 44) (bA 15 24) HT_ rfl ?_; refine pu_ (i := 16) (N := some 46) ⟨bN 24 98303⟩ HT_ rfl ?_; refine pu_ (i := 19) (N := some 49) ⟨bN 24 622591⟩ HT_ rfl ?_; refine tk_ (i := 15) (N := some 45) ⟨bN 24 655359⟩ HT_ HW_ hHeld rfl ?_; refine tk_ (i := 18) (N := some 48) ⟨bN 24 917503⟩ HT_ HW_ hHeld rfl ?_; refine on_ (i := 17) (N := some 47) (bA 20 24) HT_ rfl (fun K hK => ?_); refine goes_ Tryz.func31 (by kernel_rfl) rfl #[.agg #[.int .i64 a0_0, .int .i64 a0_1, .slice A0_2 l0_2.length c0_2], .int .i64 t269] (by rfl) rfl rfl tA_ ?_
            with_reducible refine (land_sum.calls a0_0 a0_1 _ _ l0_2 t269 t272 _ ?side1 ?side2 A29.out).mono ?_
            (case side1 => exact dC_ HR0_2 HB)
            (case side2 => exact HC0_2.out)
            rintro e w34 ⟨rfl, hb⟩; refine ⟨_, rfl, ?_⟩; replace HO_7 := Aside0.mk (Kd.R_below (dR_ HO_7) hb); replace BK263 := bk_ BK263 hb; replace HB := Aside0.mk (below_step (dL1_ HB GE263) hb); (try clear hb); (try clear hb2); (try clear hk); (try clear hi); refine hK.out _ _ ⟨(blk_cell BK263.out 0).trans rfl, (blk_cell BK263.out 1).trans rfl, (blk_cell BK263.out 2).trans rfl⟩ (fun hHeld => ?_); clear hK K; refine norm_ (a' := ?_) ?_ ?_
            rotate_left
            ·show Act.put _ (some 47) _ = _
             simp only [Act.put, sI_, s0_, sS_, i64_w, i32_w]
             rfl
            refine on_ (i := 20) (N := some 50) (bA 21 24) HT_ rfl (fun K hK => ?_); refine goes_ Tryz.func31 (by kernel_rfl) rfl #[.agg #[.int .i64 a0_0, .int .i64 a0_1, .slice A0_2 l0_2.length c0_2], .int .i64 x8_2] (by rfl) rfl rfl tA_ ?_
            with_reducible refine (land_sum.calls a0_0 a0_1 _ _ l0_2 x8_2 t273 _ ?side1 ?side2 A30.out).mono ?_
            (case side1 => exact dC_ HR0_2 HB)
            (case side2 => exact HC0_2.out)
            rintro e w35 ⟨rfl, hb⟩; refine ⟨_, rfl, ?_⟩; replace HO_7 := Aside0.mk (Kd.R_below (dR_ HO_7) hb); replace BK263 := bk_ BK263 hb; replace HB := Aside0.mk (below_step (dL1_ HB GE263) hb); (try clear hb); (try clear hb2); (try clear hk); (try clear hi); refine hK.out _ _ ⟨(blk_cell BK263.out 0).trans rfl, (blk_cell BK263.out 1).trans rfl, (blk_cell BK263.out 2).trans rfl⟩ (fun hHeld => ?_); clear hK K; refine norm_ (a' := ?_) ?_ ?_
            rotate_left
            ·show Act.put _ (some 50) _ = _
             simp only [Act.put, sI_, s0_, sS_, i64_w, i32_w]
             rfl
            refine pu_ (i := 21) (N := some 51) (bA 22 24) HT_ rfl ?_; refine pu_ (i := 22) (N := some 52) (bA 23 24) HT_ rfl ?_; refine pu_ (i := 23) (N := some 53) (bA 24 24) HT_ rfl ?_; refine done_ (done_of HT_.out (by kernel_rfl)) ?_
            try go_wp2
            go_meet
            case rel => exact ⟨_, (decide (t272 < t273)), tS_, H', ⟨by have := HK1.out; have := HK2.out; first | omega | exact Nat.le_refl _⟩, ⟨dR_ HO_7⟩, ⟨dB_ BK263⟩, ⟨dL1_ HB GE263⟩⟩
          ·rw [if_neg c24] at H; have c24b0 : decide (t270 < t271) = false := decide_eq_false c24; clear c24; have H' := Aside0.mk H; clear H
           try go_wp2
           replace HO_7 := Aside0.mk (Kd.R_drew HO_7.out); replace BK263 := Aside0.mk (blk_drew BK263.out); replace HB := Aside0.mk (below_drew1 HB.out); refine start_ (n := 24) (S := fun w' => w'.cell? ⟨gb263, 0, none⟩ = some (.int .i64 a0_0) ∧ w'.cell? ⟨gb263, 1, none⟩ = some (.int .i64 a0_1) ∧ w'.cell? ⟨gb263, 2, none⟩ = some (.slice A0_2 l0_2.length c0_2)) (ds := []) ⟨bN 24 0⟩ (by kernel_rfl) rfl rfl ⟨(blk_cell BK263.out 0).trans rfl, (blk_cell BK263.out 1).trans rfl, (blk_cell BK263.out 2).trans rfl⟩ (fun hHeld => ?_); refine with_tabW land_River.tab11 land_River.bits11 (fun HT_ HW_ => ?_)
           generalize w20.drew = w36 at HO_7 BK263 HB hHeld ⊢; refine pu_ (i := 0) (N := some 30) (bA 1 24) HT_ rfl ?_; refine pu_ (i := 1) (N := some 31) (bA 2 24) HT_ rfl ?_; refine pu_ (i := 2) (N := some 32) (bA 3 24) HT_ rfl ?_; refine pu_ (i := 4) (N := some 34) ⟨bN 24 23⟩ HT_ rfl ?_; refine pu_ (i := 7) (N := some 37) ⟨bN 24 151⟩ HT_ rfl ?_; refine tk_ (i := 3) (N := some 33) ⟨bN 24 159⟩ HT_ HW_ hHeld rfl ?_; refine tk_ (i := 6) (N := some 36) ⟨bN 24 223⟩ HT_ HW_ hHeld rfl ?_; refine on_ (i := 5) (N := some 35) (bA 8 24) HT_ rfl (fun K hK => ?_); refine goes_ Tryz.func31 (by kernel_rfl) rfl #[.agg #[.int .i64 a0_0, .int .i64 a0_1, .slice A0_2 l0_2.length c0_2], .int .i64 t269] (by rfl) rfl rfl tA_ ?_
           with_reducible refine (land_sum.calls a0_0 a0_1 _ _ l0_2 t269 t270 _ ?side1 ?side2 A22.out).mono ?_
           (case side1 => exact dC_ HR0_2 HB)
           (case side2 => exact HC0_2.out)
           rintro e w37 ⟨rfl, hb⟩; refine ⟨_, rfl, ?_⟩; replace HO_7 := Aside0.mk (Kd.R_below (dR_ HO_7) hb); replace BK263 := bk_ BK263 hb; replace HB := Aside0.mk (below_step (dL1_ HB GE263) hb); (try clear hb); (try clear hb2); (try clear hk); (try clear hi); refine hK.out _ _ ⟨(blk_cell BK263.out 0).trans rfl, (blk_cell BK263.out 1).trans rfl, (blk_cell BK263.out 2).trans rfl⟩ (fun hHeld => ?_); clear hK K; refine norm_ (a' := ?_) ?_ ?_
           rotate_left
           ·show Act.put _ (some 35) _ = _
            simp only [Act.put, sI_, s0_, sS_, i64_w, i32_w]
            rfl
           refine on_ (i := 8) (N := some 38) (bA 9 24) HT_ rfl (fun K hK => ?_); refine goes_ Tryz.func31 (by kernel_rfl) rfl #[.agg #[.int .i64 a0_0, .int .i64 a0_1, .slice A0_2 l0_2.length c0_2], .int .i64 x1_1] (by rfl) rfl rfl tA_ ?_
           with_reducible refine (land_sum.calls a0_0 a0_1 _ _ l0_2 x1_1 t271 _ ?side1 ?side2 A23.out).mono ?_
           (case side1 => exact dC_ HR0_2 HB)
           (case side2 => exact HC0_2.out)
           rintro e w38 ⟨rfl, hb⟩; refine ⟨_, rfl, ?_⟩; replace HO_7 := Aside0.mk (Kd.R_below (dR_ HO_7) hb); replace BK263 := bk_ BK263 hb; replace HB := Aside0.mk (below_step (dL1_ HB GE263) hb); (try clear hb); (try clear hb2); (try clear hk); (try clear hi); refine hK.out _ _ ⟨(blk_cell BK263.out 0).trans rfl, (blk_cell BK263.out 1).trans rfl, (blk_cell BK263.out 2).trans rfl⟩ (fun hHeld => ?_); clear hK K; refine norm_ (a' := ?_) ?_ ?_
           rotate_left
           ·show Act.put _ (some 38) _ = _
            simp only [Act.put, sI_, s0_, sS_, i64_w, i32_w]
            rfl
           refine pu_ (i := 9) (N := some 39) (bA 10 24) HT_ rfl ?_; refine pu_ (i := 10) (N := some 40) (bA 11 24) HT_ rfl ?_; refine pu_ (i := 11) (N := some 41) (bA 12 24) HT_ rfl ?_; refine pn_ (i := 12) (N := some 42) (bA 13 24) HT_ rfl ?_; refine pn_ (i := 13) (N := some 43) (bA 14 24) HT_ rfl ?_; refine pn_ (i := 14) (N := some 44) (bA 15 24) HT_ rfl ?_; refine pn_ (i := 15) (N := some 45) (bA 16 24) HT_ rfl ?_; refine pn_ (i := 16) (N := some 46) (bA 17 24) HT_ rfl ?_; refine pn_ (i := 17) (N := some 47) (bA 18 24) HT_ rfl ?_; refine pn_ (i := 18) (N := some 48) (bA 19 24) HT_ rfl ?_; refine pn_ (i := 19) (N := some 49) (bA 20 24) HT_ rfl ?_; refine pn_ (i := 20) (N := some 50) (bA 21 24) HT_ rfl ?_; refine pn_ (i := 21) (N := some 51) (bA 22 24) HT_ rfl ?_; refine pn_ (i := 22) (N := some 52) (bA 23 24) HT_ rfl ?_; refine pu_ (i := 23) (N := some 53) (bA 24 24) HT_ rfl ?_; refine done_ (done_of HT_.out (by kernel_rfl)) ?_
           try go_wp2
           go_meet
           case rel => exact ⟨_, (false), tS_, H', ⟨by have := HK1.out; have := HK2.out; first | omega | exact Nat.le_refl _⟩, ⟨dR_ HO_7⟩, ⟨dB_ BK263⟩, ⟨dL1_ HB GE263⟩⟩
         ·rw [if_neg c21] at H; have c21b0 : decide (0 ≤ t269) = false := decide_eq_false c21; clear c21
          (first | rw [c21b0] | (simp only [i64_w, i32_w]; rw [c21b0]) | skip)
          have H' := Aside0.mk H; clear H
          try go_wp2
          replace HO_7 := Aside0.mk (Kd.R_drew HO_7.out); replace BK263 := Aside0.mk (blk_drew BK263.out); replace HB := Aside0.mk (below_drew1 HB.out); refine start_ (n := 24) (S := fun w' => True) (ds := []) ⟨bN 24 0⟩ (by kernel_rfl) rfl rfl trivial (fun hHeld => ?_); refine with_tabW land_River.tab11 land_River.bits11 (fun HT_ HW_ => ?_)
          generalize w20.drew = w39 at HO_7 BK263 HB hHeld ⊢; refine pu_ (i := 0) (N := some 30) (bA 1 24) HT_ rfl ?_; refine pu_ (i := 1) (N := some 31) (bA 2 24) HT_ rfl ?_; refine pu_ (i := 2) (N := some 32) (bA 3 24) HT_ rfl ?_; refine pn_ (i := 3) (N := some 33) (bA 4 24) HT_ rfl ?_; refine pn_ (i := 4) (N := some 34) (bA 5 24) HT_ rfl ?_; refine pn_ (i := 5) (N := some 35) (bA 6 24) HT_ rfl ?_; refine pn_ (i := 6) (N := some 36) (bA 7 24) HT_ rfl ?_; refine pn_ (i := 7) (N := some 37) (bA 8 24) HT_ rfl ?_; refine pn_ (i := 8) (N := some 38) (bA 9 24) HT_ rfl ?_; refine pn_ (i := 9) (N := some 39) (bA 10 24) HT_ rfl ?_; refine pu_ (i := 10) (N := some 40) (bA 11 24) HT_ rfl ?_; refine pu_ (i := 11) (N := some 41) (bA 12 24) HT_ rfl ?_; refine pn_ (i := 12) (N := some 42) (bA 13 24) HT_ rfl ?_; refine pn_ (i := 13) (N := some 43) (bA 14 24) HT_ rfl ?_; refine pn_ (i := 14) (N := some 44) (bA 15 24) HT_ rfl ?_; refine pn_ (i := 15) (N := some 45) (bA 16 24) HT_ rfl ?_; refine pn_ (i := 16) (N := some 46) (bA 17 24) HT_ rfl ?_; refine pn_ (i := 17) (N := some 47) (bA 18 24) HT_ rfl ?_; refine pn_ (i := 18) (N := some 48) (bA 19 24) HT_ rfl ?_; refine pn_ (i := 19) (N := some 49) (bA 20 24) HT_ rfl ?_; refine pn_ (i := 20) (N := some 50) (bA 21 24) HT_ rfl ?_; refine pn_ (i := 21) (N := some 51) (bA 22 24) HT_ rfl ?_; refine pn_ (i := 22) (N := some 52) (bA 23 24) HT_ rfl ?_; refine pu_ (i := 23) (N := some 53) (bA 24 24) HT_ rfl ?_; refine done_ (done_of HT_.out (by kernel_rfl)) ?_
          try go_wp2
          go_meet
          case rel => exact ⟨_, (false), tS_, H', ⟨by have := HK1.out; have := HK2.out; first | omega | exact Nat.le_refl _⟩, ⟨dR_ HO_7⟩, ⟨dB_ BK263⟩, ⟨dL1_ HB GE263⟩⟩
        case rest =>
         clear HC18; (try clear c21); (try clear c24); obtain ⟨kq, x53_17, rfl, HA, HJ17, HO_7, BK263, HB⟩ := hcut
         cases kq with
         | zero => exact absurd HA.out (by simp [land_River.j2])
         | succ kj17 =>
          have H := HA.out; clear HA; simp only [land_River.j2] at H
          by_cases c40 : x53_17 = true
          ·subst c40; rw [if_pos rfl] at H; have H' := Aside0.mk H; clear H; go_wp2
           go_roundg kj17
           case measure => have := HK1.out; have := HK2.out; have := HJ17.out; omega
           case rel => exact ⟨(t269), (wrap64 (x23_2 + 1)), tS_, tS_, H', ⟨by have := HK1.out; have := HK2.out; have := HJ17.out; omega⟩, ⟨dR_ HO_7⟩, ⟨dB_ BK263⟩, ⟨dL1_ HB GE263⟩⟩
          ·replace c40 := Bool.eq_false_iff.mpr c40; subst c40; rw [if_neg (show ¬ (false = true) by decide)] at H; have H' := Aside0.mk H; clear H; go_wp2
           go_roundg kj17
           case measure => have := HK1.out; have := HK2.out; have := HJ17.out; omega
           case rel => exact ⟨(x8_2), (wrap64 (x23_2 + 1)), tS_, tS_, H', ⟨by have := HK1.out; have := HK2.out; have := HJ17.out; omega⟩, ⟨dR_ HO_7⟩, ⟨dB_ BK263⟩, ⟨dL1_ HB GE263⟩⟩
       ·rw [if_neg c16] at H; have c16b0 : decide (x23_2 < 4) = false := decide_eq_false c16; clear c16
        by_cases c41 : x8_2 < 0
        ·rw [if_pos c41] at H; have c41b0 : decide (x8_2 < 0) = true := decide_eq_true c41; clear c41; simp only [Option.some.injEq, Prod.mk.injEq] at H; obtain ⟨rfl, rfl⟩ := H; go_wp2
         go_ret2
         exact ⟨_, tE_, dR_ HO_7, dL1_ HB GE263⟩
        ·rw [if_neg c41] at H; have c41b0 : decide (x8_2 < 0) = false := decide_eq_false c41; clear c41
         by_cases c42 : x7_1.length < 17592186044416
         ·rw [if_pos c42] at H; have LMc42 := Aside0.mk c42; clear c42; obtain ⟨y274, hy274⟩ : ∃ y_ : List Int, y_ = (x7_1 ++ [x8_2]) := ⟨_, rfl⟩; replace H : (land_River.l0 k2 x8_2 y274 a0_0 a0_1 l0_2) = some (r1, r2) := by first | (rw [hy274]; with_reducible exact H) | (have H2_ := (Option.bind_some _ _).symm.trans H; rw [hy274]; with_reducible exact H2_) | (have H2_ := (Option.bind_some _ _).symm.trans H; with_reducible exact H2_) | with_reducible exact H | (rw [hy274]; exact H) | exact H
          have Ny274 := Aside0.mk hy274; clear hy274; have H' := Aside0.mk H; clear H
          go_wp2_with (first | ((with_reducible refine gate_builtin (b := .append) (xs := #[.tmp 59, .tmp 61]) rfl ?_); at_builtin; refine Kd.R_append (Kd.int .i64) (w0 := w) w.heap.size rfl (.tmp 59) (.tmp 61) 24 3 (.int .i64 0) 8 rfl Tryz.underlying24 info3 rfl (by decide) (by omega) u7 x7_1 x8_2 [.int .i64 x8_2] (fun _ => True) (fun _ => False) rfl rfl ?aP (fun _ hk => hk.elim) ?aF ?aO ?aB ?aS ?aL ?_; (case aP => exact rfl); (case aB => exact (dL1_ HB GE263)); (case aF => exact (fun _ _ => trivial)); (case aO => exact (dR_ HO_7)); (case aS => exact (below_size (dL1_ HB GE263))); (case aL => have := LMc42.out; omega); intro v275 w43 ho hb hg hat; rw [← Ny274.out] at ho; replace BK263 := Aside0.mk (blk_grown (g := gb263) (o := .cells #[.int .i64 a0_0, .int .i64 a0_1, .slice A0_2 l0_2.length c0_2] 26 (0, 0)) (dB_ BK263) hg (Kd.R_ne HO_7.out BK263.out (by decide))); replace HB := Aside0.mk (hb); have HO276 := Aside0.mk (ho); clear HO_7; clear ho hb hg hat))
          go_roundg k2
          case measure => have := HK1.out; have := HK2.out; omega
          case rel => exact ⟨(x8_2), (y274), tS_, H', ⟨by have := HK1.out; have := HK2.out; omega⟩, ⟨dR_ HO276⟩, ⟨dB_ BK263⟩, ⟨dL1_ HB GE263⟩⟩
         ·rw [if_neg c42] at H; exact absurd H (by simp)
 ·rw [if_neg c4] at H; have c4b0 : (t264 == 0) = false := beq_eq_false_iff_ne.mpr c4; have c4b1 : (t264 != 0) = true := bne_iff_ne.mpr c4; simp only [Option.some.injEq, Prod.mk.injEq] at H; obtain ⟨rfl, rfl⟩ := H
  go_enter Tryz.func13, Tryz.ntmps13
  go_wp2_with (first | ((with_reducible refine gate_dst (N := 2) rfl ?_); refine bx_ (N := 2) (cs := #[.int .i64 a0_0, .int .i64 a0_1, .slice A0_2 l0_2.length c0_2]) (t := 26) ?_; intro gb263 hg w44 hbox hb; have BK263 := Aside0.mk (hbox); have GW263 := Aside0.mk ((dS_ hg (dL_ HB) : w.heap.size ≤ gb263)); have GE263 := GW263; replace HB := Aside0.mk (below_step (dL_ HB) hb); clear hb hbox hg; obtain ⟨z45a, z45b, z45c, y45a, y45b, y45c⟩ := cs3_ BK263.out) | ((with_reducible refine gate_callee (f := 28) rfl ?_); refine gL_ (some 13) Tryz.func28 #[.agg #[.int .i64 a0_0, .int .i64 a0_1, .slice A0_2 l0_2.length c0_2], .int .i64 a1] ?_ rfl; (with_reducible refine (land_check.calls k a0_0 a0_1 _ _ l0_2 a1 t264 _ ?side1 ?side2 A3.out).mono ?_); (case side1 => exact dC_ HR0_2 HB); (case side2 => exact HC0_2.out); rintro e w46 ⟨rfl, hb⟩; refine ⟨_, rfl, ?_⟩; replace BK263 := bk_ BK263 hb; replace HB := Aside0.mk (below_step (dL1_ HB GE263) hb)))
  go_ret2
  exact ⟨_, tE_, by first | exact Kd.R_nil _ _ _ _ _ | exact Kd.N_nil _ _ _ _ _ | exact Kd.V_nil _ _ _ _ _ | exact Kd.Q_nil _ _ _ _ _ | exact Kd.S_nil _ _ _ _ _, dL1_ HB GE263⟩

end Go.Proofs.YtldbkigenaakkaaGreatDoor.Q
