-- PRINTED by print.py out of the translation. Not trusted: Lean checks it.
import Derived.Test.YtldbkigenaakkaaGreatDoorPrs
import Derived.Test.YtldbkigenaakkaaGreatDoorQ0
import Derived.Test.YtldbkigenaakkaaGreatDoorQ10
namespace Go.Proofs.YtldbkigenaakkaaGreatDoor.Q
open Go.RowKit Go.Proofs.YtldbkigenaakkaaGreatDoorPrs Go.Proofs.YtldbkigenaakkaaGreatDoorOwn Go.Proofs.YtldbkigenaakkaaGreatDoorW.PrintWords Go.Proofs.YtldbkigenaakkaaGreatDoorW.PrintLast Go.Proofs.YtldbkigenaakkaaGreatDoorW.PrintMore
open List renaming setIfInBounds_toArray → sI_, set_cons_zero → s0_, set_cons_succ → sS_
attribute [local go_sem] max2_int min2_int max_two min_two max_three min_three max_four min_four   -- for this text's walks alone
attribute [-simp] ByteArray.size_extract
set_option linter.unusedVariables false
set_option linter.unusedSimpArgs false

/-! ### land_Parse: function 11 -/
mutual
def land_Parse.j0 : Nat → ByteArray → Option (Int × Int × List Int × Int × Int)
  | 0, _ => none
  | k + 1, x0 => land_Parse.l0 k x0 (-1) 0 0 (x0.size : Int) 0 0 0 ([] : List Int)
def land_Parse.l0 : Nat → ByteArray → Int → Int → Int → Int → Int → Int → Int → List Int → Option (Int × Int × List Int × Int × Int)
  | 0, _, _, _, _, _, _, _, _, _ => none
  | k + 1, x0, x6, x7, x8, x25, x26, x238000, x238001, x238002 => if x26 < x25 then (if 0 ≤ x26 then (if x26 < (x0.size : Int) then (if (bt x0 x26) = 10 then (if 0 ≤ x7 then (if x7 ≤ x26 then (if x26 ≤ (x0.size : Int) then (if x6 < 0 then (land_Parse.j2 k x0 ((x0.extract (x7 : Int).toNat (x26 : Int).toNat).size : Int) (wrap64 (x26 + 1)) (wrap64 (x8 + 1)) (x0.extract (x7 : Int).toNat (x26 : Int).toNat) x25 x26 x238000 x238001 x238002) else (land_Parse.j2 k x0 x6 (wrap64 (x26 + 1)) (wrap64 (x8 + 1)) (x0.extract (x7 : Int).toNat (x26 : Int).toNat) x25 x26 x238000 x238001 x238002)) else (none)) else (none)) else (none)) else (land_Parse.l0 k x0 x6 x7 x8 x25 (wrap64 (x26 + 1)) x238000 x238001 x238002)) else (none)) else (none)) else ((land_Validate.f k (wrap64 (x6 - 1)) (wrap64 (x8 - 1)) x238002).bind fun t241 => (if t241 = 0 then (some (wrap64 (x6 - 1), wrap64 (x8 - 1), x238002, 0, 0)) else (some (0, 0, ([] : List Int), 0, t241))))
def land_Parse.j2 : Nat → ByteArray → Int → Int → Int → ByteArray → Int → Int → Int → Int → List Int → Option (Int × Int × List Int × Int × Int)
  | 0, _, _, _, _, _, _, _, _, _, _ => none
  | k + 1, x0, x6, x7, x8, x10, x25, x26, x238000, x238001, x238002 => if x10.toList = ([] : List UInt8) then (land_Parse.j3 k x0 x6 x7 x8 x10 x25 x26 true x238000 x238001 x238002) else (land_Parse.j3 k x0 x6 x7 x8 x10 x25 x26 ((x10.size : Int) != x6) x238000 x238001 x238002)
def land_Parse.j3 : Nat → ByteArray → Int → Int → Int → ByteArray → Int → Int → Bool → Int → Int → List Int → Option (Int × Int × List Int × Int × Int)
  | 0, _, _, _, _, _, _, _, _, _, _, _ => none
  | k + 1, x0, x6, x7, x8, x10, x25, x26, x52, x238000, x238001, x238002 => if x52 = true then (some (0, 0, ([] : List Int), x8, 14)) else (land_Parse.l1 k x0 x6 x7 x8 x10 x25 x26 (x10.size : Int) 0 x238000 x238001 x238002)
def land_Parse.l1 : Nat → ByteArray → Int → Int → Int → ByteArray → Int → Int → Int → Int → Int → Int → List Int → Option (Int × Int × List Int × Int × Int)
  | 0, _, _, _, _, _, _, _, _, _, _, _, _ => none
  | k + 1, x0, x6, x7, x8, x10, x25, x26, x56, x57, x238000, x238001, x238002 => if x57 < x56 then (if 0 ≤ x57 then (if x57 < (x10.size : Int) then (if (bt x10 x57) < 97 then (land_Parse.j5 k x0 x6 x7 x8 x10 x57 x25 x26 x56 x57 true x238000 x238001 x238002) else (land_Parse.j5 k x0 x6 x7 x8 x10 x57 x25 x26 x56 x57 (decide ((bt x10 x57) > 112)) x238000 x238001 x238002)) else (none)) else (none)) else (land_Parse.l0 k x0 x6 x7 x8 x25 (wrap64 (x26 + 1)) x238000 x238001 x238002)
def land_Parse.j5 : Nat → ByteArray → Int → Int → Int → ByteArray → Int → Int → Int → Int → Int → Bool → Int → Int → List Int → Option (Int × Int × List Int × Int × Int)
  | 0, _, _, _, _, _, _, _, _, _, _, _, _, _, _ => none
  | k + 1, x0, x6, x7, x8, x10, x11, x25, x26, x56, x57, x69, x238000, x238001, x238002 => if x69 = true then (some (0, 0, ([] : List Int), x8, 14)) else (if 0 ≤ x11 then (if x11 < (x10.size : Int) then (if x238002.length < 17592186044416 then (land_Parse.l1 k x0 x6 x7 x8 x10 x25 x26 x56 (wrap64 (x57 + 1)) x238000 x238001 (x238002 ++ [((bt x10 x11) - 97) % 256])) else (none)) else (none)) else (none))
end
def land_Parse.f (k : Nat) (a0 : ByteArray) : Option (Int × Int × List Int × Int × Int) := if a0.toList = ([] : List UInt8) then (some (0, 0, ([] : List Int), 0, 14)) else (if 0 ≤ (wrap64 ((a0.size : Int) - 1)) then (if (wrap64 ((a0.size : Int) - 1)) < (a0.size : Int) then (if (bt a0 (wrap64 ((a0.size : Int) - 1))) = 10 then (land_Parse.j0 k a0) else (if a0.size + 1 ≤ 9223372036854775807 then (land_Parse.j0 k (a0 ++ (⟨#[10]⟩ : ByteArray))) else (none))) else (none)) else (none))
theorem land_Parse.mono_l : ∀ k, (∀ y0, LeO (land_Parse.j0 k y0) (land_Parse.j0 (k + 1) y0)) ∧ (∀ y0 y1 y2 y3 y4 y5 y6 y7 y8, LeO (land_Parse.l0 k y0 y1 y2 y3 y4 y5 y6 y7 y8) (land_Parse.l0 (k + 1) y0 y1 y2 y3 y4 y5 y6 y7 y8)) ∧ (∀ y0 y1 y2 y3 y4 y5 y6 y7 y8 y9, LeO (land_Parse.j2 k y0 y1 y2 y3 y4 y5 y6 y7 y8 y9) (land_Parse.j2 (k + 1) y0 y1 y2 y3 y4 y5 y6 y7 y8 y9)) ∧ (∀ y0 y1 y2 y3 y4 y5 y6 y7 y8 y9 y10, LeO (land_Parse.j3 k y0 y1 y2 y3 y4 y5 y6 y7 y8 y9 y10) (land_Parse.j3 (k + 1) y0 y1 y2 y3 y4 y5 y6 y7 y8 y9 y10)) ∧ (∀ y0 y1 y2 y3 y4 y5 y6 y7 y8 y9 y10 y11, LeO (land_Parse.l1 k y0 y1 y2 y3 y4 y5 y6 y7 y8 y9 y10 y11) (land_Parse.l1 (k + 1) y0 y1 y2 y3 y4 y5 y6 y7 y8 y9 y10 y11)) ∧ (∀ y0 y1 y2 y3 y4 y5 y6 y7 y8 y9 y10 y11 y12 y13, LeO (land_Parse.j5 k y0 y1 y2 y3 y4 y5 y6 y7 y8 y9 y10 y11 y12 y13) (land_Parse.j5 (k + 1) y0 y1 y2 y3 y4 y5 y6 y7 y8 y9 y10 y11 y12 y13))
  | 0 => ⟨fun _ r h => by simp [land_Parse.j0] at h, fun _ _ _ _ _ _ _ _ _ r h => by simp [land_Parse.l0] at h, fun _ _ _ _ _ _ _ _ _ _ r h => by simp [land_Parse.j2] at h, fun _ _ _ _ _ _ _ _ _ _ _ r h => by simp [land_Parse.j3] at h, fun _ _ _ _ _ _ _ _ _ _ _ _ r h => by simp [land_Parse.l1] at h, fun _ _ _ _ _ _ _ _ _ _ _ _ _ _ r h => by simp [land_Parse.j5] at h⟩
  | k + 1 => by
    obtain ⟨ih0, ih1, ih2, ih3, ih4, ih5⟩ := land_Parse.mono_l k; refine ⟨?_, ?_, ?_, ?_, ?_, ?_⟩
    · intro y0
      unfold land_Parse.j0
      repeat' first
      | (with_reducible first | apply ih0 | apply ih1 | apply ih2 | apply ih3 | apply ih4 | apply ih5 | apply land_Validate.mono | exact LeO.refl _ | exact LeO.none _ | refine LeO.ite ?_ ?_ | refine LeO.bind ?_ (fun _ => ?_))
    · intro y0 y1 y2 y3 y4 y5 y6 y7 y8
      unfold land_Parse.l0
      repeat' first
      | (with_reducible first | apply ih0 | apply ih1 | apply ih2 | apply ih3 | apply ih4 | apply ih5 | apply land_Validate.mono | exact LeO.refl _ | exact LeO.none _ | refine LeO.ite ?_ ?_ | refine LeO.bind ?_ (fun _ => ?_))
    · intro y0 y1 y2 y3 y4 y5 y6 y7 y8 y9
      unfold land_Parse.j2
      repeat' first
      | (with_reducible first | apply ih0 | apply ih1 | apply ih2 | apply ih3 | apply ih4 | apply ih5 | apply land_Validate.mono | exact LeO.refl _ | exact LeO.none _ | refine LeO.ite ?_ ?_ | refine LeO.bind ?_ (fun _ => ?_))
    · intro y0 y1 y2 y3 y4 y5 y6 y7 y8 y9 y10
      unfold land_Parse.j3
      repeat' first
      | (with_reducible first | apply ih0 | apply ih1 | apply ih2 | apply ih3 | apply ih4 | apply ih5 | apply land_Validate.mono | exact LeO.refl _ | exact LeO.none _ | refine LeO.ite ?_ ?_ | refine LeO.bind ?_ (fun _ => ?_))
    · intro y0 y1 y2 y3 y4 y5 y6 y7 y8 y9 y10 y11
      unfold land_Parse.l1
      repeat' first
      | (with_reducible first | apply ih0 | apply ih1 | apply ih2 | apply ih3 | apply ih4 | apply ih5 | apply land_Validate.mono | exact LeO.refl _ | exact LeO.none _ | refine LeO.ite ?_ ?_ | refine LeO.bind ?_ (fun _ => ?_))
    · intro y0 y1 y2 y3 y4 y5 y6 y7 y8 y9 y10 y11 y12 y13
      unfold land_Parse.j5
      repeat' first
      | (with_reducible first | apply ih0 | apply ih1 | apply ih2 | apply ih3 | apply ih4 | apply ih5 | apply land_Validate.mono | exact LeO.refl _ | exact LeO.none _ | refine LeO.ite ?_ ?_ | refine LeO.bind ?_ (fun _ => ?_))
theorem land_Parse.mono : ∀ a0 k, LeO (land_Parse.f k a0) (land_Parse.f (k + 1) a0) := by
  intro a0 k; obtain ⟨ih0, ih1, ih2, ih3, ih4, ih5⟩ := land_Parse.mono_l k
  unfold land_Parse.f
  repeat' first
      | (with_reducible first | apply ih0 | apply ih1 | apply ih2 | apply ih3 | apply ih4 | apply ih5 | apply land_Validate.mono | exact LeO.refl _ | exact LeO.none _ | refine LeO.ite ?_ ?_ | refine LeO.bind ?_ (fun _ => ?_))
def land_Parse.T23 : Bool × List (List Nat × List Nat) := (true, [([], []), ([0], [0]), ([], []), ([], []), ([2, 3], [2, 3]), ([4], [4]), ([5], [5]), ([6], [6]), ([1, 7], [1, 7]), ([0, 1, 2, 3, 4, 5, 6, 7, 8], []), ([9, 8, 8, 0, 1, 2, 3, 4, 5, 6, 7, 8], [8, 9])])
def land_Parse.B23 : List Nat := [0, 1, 0, 0, 12, 28, 60, 124, 255, 511, 1023]
theorem land_Parse.tab23 : rtab .any (opsOf Tryz.f11 23) = land_Parse.T23 := by kernel_rfl
theorem land_Parse.bits23 : waitsOk land_Parse.T23.2 land_Parse.B23 = true := by kernel_rfl
set_option maxHeartbeats 8000000 in
set_option maxRecDepth 100000 in
theorem land_Parse.calls (k : Nat) (a0 : ByteArray) (r1 : Int) (r2 : Int) (r3 : List Int) (r4 : Int) (r5 : Int) (w : World) (h : land_Parse.f k a0 = some (r1, r2, r3, r4, r5)) :
    Calls Tryz.prog 11 #[.string a0] w fun e w' => ∃ v2_ : Value, e = .returned (.tuple #[.agg #[.int .i64 r1, .int .i64 r2, v2_], .int .i64 r4, .int .i64 r5]) ∧ Kd.R (Kd.int .i64) 3 w' w.heap.size (fun _ => True) v2_ r3 ∧ Below w.heap.size w w' := by
 have hu26 := Tryz.underlying26; have HB := Aside0.mk (Below.refl w.heap.size w); have H : (if a0.toList = ([] : List UInt8) then (some (0, 0, ([] : List Int), 0, 14)) else (if 0 ≤ (wrap64 ((a0.size : Int) - 1)) then (if (wrap64 ((a0.size : Int) - 1)) < (a0.size : Int) then (if (bt a0 (wrap64 ((a0.size : Int) - 1))) = 10 then (land_Parse.j0 k a0) else (if a0.size + 1 ≤ 9223372036854775807 then (land_Parse.j0 k (a0 ++ (⟨#[10]⟩ : ByteArray))) else (none))) else (none)) else (none))) = some (r1, r2, r3, r4, r5) := h; clear h
 by_cases c2 : a0.toList = ([] : List UInt8)
 ·rw [if_pos c2] at H; have c2b0 : (a0.toList == ([] : List UInt8)) = true := beq_iff_eq.mpr c2; have c2b1 : (a0.toList != ([] : List UInt8)) = false := bne_eq_false_iff_eq.mpr c2; clear c2; simp only [Option.some.injEq, Prod.mk.injEq] at H; obtain ⟨rfl, rfl, rfl, rfl, rfl⟩ := H
  go_enter Tryz.func11, Tryz.ntmps11
  go_wp2_with (first | ((with_reducible refine gate_dst (N := 2) rfl ?_); (try (refine gate_guard (by rfl) ?_; dsimp only)); refine bx_ (N := 2) (cs := #[.int .i64 0, .int .i64 0, .slice none 0 0]) (t := 26) ?_; intro gb236 hg w3 hbox hb; have BK236 := Aside0.mk (hbox); have GW236 := Aside0.mk ((dS_ hg (dL_ HB) : w.heap.size ≤ gb236)); have GE236 := GW236; replace HB := Aside0.mk (below_step (dL_ HB) hb); clear hb hbox hg; obtain ⟨z4a, z4b, z4c, y4a, y4b, y4c⟩ := cs3_ BK236.out))
  refine bodyPost_ret (results_ctt rfl _ _ gb236 26 #[.int .i64 0, .int .i64 0, .slice none 0 0] (0, 0) _ rfl (bz_ BK236) Tryz.underlying26 rfl (by kernel_rfl)) rfl ?_; exact ⟨_, tE_, by first | exact Kd.R_nil _ _ _ _ _ | exact Kd.N_nil _ _ _ _ _ | exact Kd.V_nil _ _ _ _ _ | exact Kd.Q_nil _ _ _ _ _ | exact Kd.S_nil _ _ _ _ _, dL1_ HB GE236⟩
 ·rw [if_neg c2] at H; have c2b0 : (a0.toList == ([] : List UInt8)) = false := beq_eq_false_iff_ne.mpr c2; have c2b1 : (a0.toList != ([] : List UInt8)) = true := bne_iff_ne.mpr c2; obtain ⟨ji5, hji5⟩ : ∃ j_ : Int, (wrap64 ((a0.size : Int) - 1)) = j_ := ⟨_, rfl⟩; replace H : (if 0 ≤ (ji5) then (if (ji5) < (a0.size : Int) then (if (bt a0 (ji5)) = 10 then (land_Parse.j0 k a0) else (if a0.size + 1 ≤ 9223372036854775807 then (land_Parse.j0 k (a0 ++ (⟨#[10]⟩ : ByteArray))) else (none))) else (none)) else (none)) = some (r1, r2, r3, r4, r5) := by first | (rw [hji5] at H; exact H) | (simp only [hji5] at H ⊢; exact H)
  have hji5w : (IntKind.i64.wrap ((a0.size : Int) - 1)) = ji5 := (i64_w _).trans hji5
  by_cases c6 : 0 ≤ (ji5)
  ·rw [if_pos c6] at H; have c6b0 : decide (0 ≤ (ji5)) = true := decide_eq_true c6; clear c6
   by_cases c7 : (ji5) < (a0.size : Int)
   ·rw [if_pos c7] at H; have c7b0 : decide ((ji5) < (a0.size : Int)) = true := decide_eq_true c7; clear c7; have HC9 := Aside0.mk H; clear H
    go_enter Tryz.func11, Tryz.ntmps11
    go_upto_if 21 with (first | ((with_reducible refine gate_dst (N := 2) rfl ?_); (try (refine gate_guard (by rfl) ?_; dsimp only)); refine bx_ (N := 2) (cs := #[.int .i64 0, .int .i64 0, .slice none 0 0]) (t := 26) ?_; intro gb236 hg w10 hbox hb; have BK236 := Aside0.mk (hbox); have GW236 := Aside0.mk ((dS_ hg (dL_ HB) : w.heap.size ≤ gb236)); have GE236 := GW236; replace HB := Aside0.mk (below_step (dL_ HB) hb); clear hb hbox hg; have p8 : 0 ≤ ((ji5) : Int) := of_decide_eq_true tW_; have q8 : (ji5) < (a0.size : Int) := of_decide_eq_true tW_; have hx8 := bt_at a0 (ji5); replace p8 := eq_true p8; replace q8 := eq_true q8))
    (try simp only [Act.put, sI_, s0_, sS_])
    go_cut [0] (fun v0 wc => ∃ (kq : Nat) (x0_8 : ByteArray), v0 = .string x0_8 ∧ Aside0 (land_Parse.j0 kq x0_8 = some (r1, r2, r3, r4, r5)) ∧ Aside0 (kq ≤ k) ∧ Aside0 (wc.heap[gb236]? = some (.cells #[.int .i64 0, .int .i64 0, (.slice none 0 0)] 26 (0, 0))) ∧ Aside0 (Below w.heap.size w wc))
    case first =>
     have H := HC9.out; clear HC9
     by_cases c11 : (bt a0 (ji5)) = 10
     ·rw [if_pos c11] at H; have c11b0 : ((bt a0 (ji5)) == 10) = true := beq_iff_eq.mpr c11; have c11b1 : ((bt a0 (ji5)) != 10) = false := bne_eq_false_iff_eq.mpr c11; clear c11
      (first | rw [c11b0] | (simp only [i64_w, i32_w]; rw [c11b0]) | skip)
      have H' := Aside0.mk H; clear H; go_wp2
      go_meet
      case rel => exact ⟨_, (a0), tS_, H', ⟨by first | omega | exact Nat.le_refl _⟩, ⟨dB_ BK236⟩, ⟨dL1_ HB GE236⟩⟩
     ·rw [if_neg c11] at H; have c11b0 : ((bt a0 (ji5)) == 10) = false := beq_eq_false_iff_ne.mpr c11; have c11b1 : ((bt a0 (ji5)) != 10) = true := bne_iff_ne.mpr c11
      (first | rw [c11b0] | (simp only [i64_w, i32_w]; rw [c11b0]) | skip)
      by_cases c12 : a0.size + 1 ≤ 9223372036854775807
      ·rw [if_pos c12] at H; have c12b0 := eq_true c12; have c12b1 : decide (a0.size + 1 ≤ 9223372036854775807) = true := decide_eq_true c12
       try have c12b2 : (9223372036854775807 < a0.size + 1) = False := eq_false (Nat.not_lt.2 c12)
       have H' := Aside0.mk H; clear H; go_wp2
       go_meet
       case rel => exact ⟨_, (a0 ++ (⟨#[10]⟩ : ByteArray)), tS_, H', ⟨by first | omega | exact Nat.le_refl _⟩, ⟨dB_ BK236⟩, ⟨dL1_ HB GE236⟩⟩
      ·rw [if_neg c12] at H; exact absurd H (by simp)
    case rest =>
     clear HC9; (try clear c2); (try clear c2b0); (try clear c2b1); (try clear c6); (try clear c6b0); (try clear c7); (try clear c7b0); (try clear p8); (try clear q8); (try clear hx8); (try clear c11); (try clear c12); (try clear p8); (try clear q8); obtain ⟨kq, x0_8, rfl, HA, HJ8, BK236, HB⟩ := hcut
     cases kq with
     | zero => exact absurd HA.out (by simp [land_Parse.j0])
     | succ kj8 =>
      have H := HA.out; clear HA; simp only [land_Parse.j0] at H; have H' := Aside0.mk H; clear H
      go_wp2_with (first | ((with_reducible refine gate_dst (N := 5) rfl ?_); (try (refine gate_guard (by rfl) ?_; dsimp only)); refine bx_ (N := 5) (cs := #[.int .i64 0, .int .i64 0, .slice none 0 0]) (t := 26) ?_; intro gb237 hg w13 hbox hb; have BK237 := Aside0.mk (hbox); have GW237 := Aside0.mk ((dS_ hg (dL1_ HB GE236) : w.heap.size ≤ gb237)); have GE237 := GW237; replace HB := Aside0.mk (below_step (dL1_ HB GE236) hb); have NB236_237 := nb_ hg BK236; have NB237_236 := nc_ hg BK236; replace BK236 := bk_ BK236 hb; clear hb hbox hg))
      go_loopg [6, 7, 8, 26] kj8 (fun kq v6 v7 v8 v26 w' => ∃ (x6_2 : Int) (x7_2 : Int) (x8_2 : Int) (x26_2 : Int) (x237000_2 : Int) (x237001_2 : Int) (x238002_2 : List Int) (u238002 : Value), v6 = .int .i64 x6_2 ∧ v7 = .int .i64 x7_2 ∧ v8 = .int .i64 x8_2 ∧ v26 = .int .i64 x26_2 ∧ Aside0 (land_Parse.l0 kq x0_8 x6_2 x7_2 x8_2 (x0_8.size : Int) x26_2 0 0 x238002_2 = some (r1, r2, r3, r4, r5)) ∧ Aside0 (kq ≤ kj8) ∧ Aside0 (Kd.R (Kd.int .i64) 3 w' w.heap.size (fun _ => True) u238002 x238002_2) ∧ Aside0 (w'.heap[gb236]? = some (.cells #[.int .i64 x237000_2, .int .i64 x237001_2, (.slice none 0 0)] 26 (0, 0))) ∧ Aside0 (w'.heap[gb237]? = some (.cells #[.int .i64 0, .int .i64 0, u238002] 26 (0, 0))) ∧ Aside0 (Below w.heap.size w w'))
      case atStart => exact ⟨((-1)), (0), (0), (0), (0), (0), (([] : List Int)), (.slice none 0 0), tS_, tS_, tS_, tS_, H', ⟨Nat.le_refl _⟩, ⟨by first | exact Kd.R_nil _ _ _ _ _ | exact Kd.N_nil _ _ _ _ _ | exact Kd.V_nil _ _ _ _ _ | exact Kd.Q_nil _ _ _ _ _ | exact Kd.S_nil _ _ _ _ _⟩, ⟨dB_ BK236⟩, ⟨dB_ BK237⟩, ⟨dL2_ HB GE236 GE237⟩⟩
      case round =>
       clear H'; (try clear c2); (try clear c2b0); (try clear c2b1); (try clear c6); (try clear c6b0); (try clear c7); (try clear c7b0); (try clear p8); (try clear q8); (try clear hx8); (try clear c11); (try clear c12); (try clear p8); (try clear q8); obtain ⟨x6_2, x7_2, x8_2, x26_2, x237000_2, x237001_2, x238002_2, u238002, rfl, rfl, rfl, rfl, HA, HK2, HO_238002, BK236, BK237, HB⟩ := hrel
       cases gk with
       | zero => exact absurd HA.out (by simp [land_Parse.l0])
       | succ k2 =>
        have H := HA.out; clear HA; simp only [land_Parse.l0] at H
        by_cases c14 : x26_2 < (x0_8.size : Int)
        ·rw [if_pos c14] at H; have c14b0 : decide (x26_2 < (x0_8.size : Int)) = true := decide_eq_true c14; clear c14
         by_cases c15 : 0 ≤ x26_2
         ·rw [if_pos c15] at H; have c15b0 : decide (0 ≤ x26_2) = true := decide_eq_true c15; clear c15
          by_cases c16 : x26_2 < (x0_8.size : Int)
          ·rw [if_pos c16] at H; have c16b0 : decide (x26_2 < (x0_8.size : Int)) = true := decide_eq_true c16; clear c16
           by_cases c18 : (bt x0_8 x26_2) = 10
           ·rw [if_pos c18] at H; have c18b0 : ((bt x0_8 x26_2) == 10) = true := beq_iff_eq.mpr c18; have c18b1 : ((bt x0_8 x26_2) != 10) = false := bne_eq_false_iff_eq.mpr c18; clear c18
            by_cases c19 : 0 ≤ x7_2
            ·rw [if_pos c19] at H; have c19b0 := eq_true c19; have c19b1 : decide (0 ≤ x7_2) = true := decide_eq_true c19; clear c19
             by_cases c20 : x7_2 ≤ x26_2
             ·rw [if_pos c20] at H; have c20b0 := eq_true c20; have c20b1 : decide (x7_2 ≤ x26_2) = true := decide_eq_true c20; clear c20
              by_cases c21 : x26_2 ≤ (x0_8.size : Int)
              ·rw [if_pos c21] at H; have c21b0 := eq_true c21; have c21b1 : decide (x26_2 ≤ (x0_8.size : Int)) = true := decide_eq_true c21; clear c21; have HC22 := Aside0.mk H; clear H; have p17 : 0 ≤ (x26_2 : Int) := of_decide_eq_true tW_; have q17 : x26_2 < (x0_8.size : Int) := of_decide_eq_true tW_; have hx17 := bt_at x0_8 x26_2; replace p17 := eq_true p17; replace q17 := eq_true q17
               go_upto_if 42 with (fail)
               go_cut [6] (fun v6 wc => ∃ (kq : Nat) (x6_21 : Int), v6 = .int .i64 x6_21 ∧ Aside0 (land_Parse.j2 kq x0_8 x6_21 (wrap64 (x26_2 + 1)) (wrap64 (x8_2 + 1)) (x0_8.extract (x7_2 : Int).toNat (x26_2 : Int).toNat) (x0_8.size : Int) x26_2 0 0 x238002_2 = some (r1, r2, r3, r4, r5)) ∧ Aside0 (kq ≤ k2) ∧ Aside0 (Kd.R (Kd.int .i64) 3 wc w.heap.size (fun _ => True) u238002 x238002_2) ∧ Aside0 (wc.heap[gb236]? = some (.cells #[.int .i64 x237000_2, .int .i64 x237001_2, (.slice none 0 0)] 26 (0, 0))) ∧ Aside0 (wc.heap[gb237]? = some (.cells #[.int .i64 0, .int .i64 0, u238002] 26 (0, 0))) ∧ Aside0 (Below w.heap.size w wc))
               case first =>
                have H := HC22.out; clear HC22
                by_cases c23 : x6_2 < 0
                ·rw [if_pos c23] at H; have c23b0 : decide (x6_2 < 0) = true := decide_eq_true c23; clear c23
                 (first | rw [c23b0] | (simp only [i64_w, i32_w]; rw [c23b0]) | skip)
                 have H' := Aside0.mk H; clear H; go_wp2
                 go_meet
                 case rel => exact ⟨_, (((x0_8.extract (x7_2 : Int).toNat (x26_2 : Int).toNat).size : Int)), tS_, H', ⟨by have := HJ8.out; have := HK2.out; first | omega | exact Nat.le_refl _⟩, ⟨dR_ HO_238002⟩, ⟨dB_ BK236⟩, ⟨dB_ BK237⟩, ⟨dL2_ HB GE236 GE237⟩⟩
                ·rw [if_neg c23] at H; have c23b0 : decide (x6_2 < 0) = false := decide_eq_false c23; clear c23
                 (first | rw [c23b0] | (simp only [i64_w, i32_w]; rw [c23b0]) | skip)
                 have H' := Aside0.mk H; clear H; go_wp2
                 go_meet
                 case rel => exact ⟨_, (x6_2), tS_, H', ⟨by have := HJ8.out; have := HK2.out; first | omega | exact Nat.le_refl _⟩, ⟨dR_ HO_238002⟩, ⟨dB_ BK236⟩, ⟨dB_ BK237⟩, ⟨dL2_ HB GE236 GE237⟩⟩
               case rest =>
                clear HC22; (try clear c2); (try clear c2b0); (try clear c2b1); (try clear c6); (try clear c6b0); (try clear c7); (try clear c7b0); (try clear p8); (try clear q8); (try clear hx8); (try clear c11); (try clear c12); (try clear c14); (try clear c14b0); (try clear c15); (try clear c15b0); (try clear c16); (try clear c16b0); (try clear p17); (try clear q17); (try clear hx17); (try clear c18); (try clear c18b0); (try clear c18b1); (try clear c19); (try clear c19b0); (try clear c19b1); (try clear c20); (try clear c20b0); (try clear c20b1); (try clear c21); (try clear c21b0); (try clear c21b1); (try clear c23); (try clear p17); (try clear p8); (try clear q17); (try clear q8); obtain ⟨kq, x6_21, rfl, HA, HJ21, HO_238002, BK236, BK237, HB⟩ := hcut
                cases kq with
                | zero => exact absurd HA.out (by simp [land_Parse.j2])
                | succ kj21 =>
                 have H := HA.out; clear HA; simp only [land_Parse.j2] at H; have HC24 := Aside0.mk H; clear H
                 go_upto_region 16 with (fail)
                 go_cut [52] (fun v52 wc => ∃ (kq : Nat) (x52_23 : Bool), v52 = .bool x52_23 ∧ Aside0 (land_Parse.j3 kq x0_8 x6_21 (wrap64 (x26_2 + 1)) (wrap64 (x8_2 + 1)) (x0_8.extract (x7_2 : Int).toNat (x26_2 : Int).toNat) (x0_8.size : Int) x26_2 x52_23 0 0 x238002_2 = some (r1, r2, r3, r4, r5)) ∧ Aside0 (kq ≤ kj21) ∧ Aside0 (Kd.R (Kd.int .i64) 3 wc w.heap.size (fun _ => True) u238002 x238002_2) ∧ Aside0 (wc.heap[gb236]? = some (.cells #[.int .i64 x237000_2, .int .i64 x237001_2, (.slice none 0 0)] 26 (0, 0))) ∧ Aside0 (wc.heap[gb237]? = some (.cells #[.int .i64 0, .int .i64 0, u238002] 26 (0, 0))) ∧ Aside0 (Below w.heap.size w wc))
                 case first =>
                  have H := HC24.out; clear HC24
                  by_cases c25 : (x0_8.extract (x7_2 : Int).toNat (x26_2 : Int).toNat).toList = ([] : List UInt8)
                  ·rw [if_pos c25] at H; have c25b0 : ((x0_8.extract (x7_2 : Int).toNat (x26_2 : Int).toNat).toList == ([] : List UInt8)) = true := beq_iff_eq.mpr c25; have c25b1 : ((x0_8.extract (x7_2 : Int).toNat (x26_2 : Int).toNat).toList != ([] : List UInt8)) = false := bne_eq_false_iff_eq.mpr c25; clear c25
                   (first | rw [c25b0] | (simp only [i64_w, i32_w]; rw [c25b0]) | skip)
                   have H' := Aside0.mk H; clear H; go_wp2
                   go_meet
                   case rel => exact ⟨_, (true), tS_, H', ⟨by have := HJ8.out; have := HK2.out; have := HJ21.out; first | omega | exact Nat.le_refl _⟩, ⟨dR_ HO_238002⟩, ⟨dB_ BK236⟩, ⟨dB_ BK237⟩, ⟨dL2_ HB GE236 GE237⟩⟩
                  ·rw [if_neg c25] at H; have c25b0 : ((x0_8.extract (x7_2 : Int).toNat (x26_2 : Int).toNat).toList == ([] : List UInt8)) = false := beq_eq_false_iff_ne.mpr c25; have c25b1 : ((x0_8.extract (x7_2 : Int).toNat (x26_2 : Int).toNat).toList != ([] : List UInt8)) = true := bne_iff_ne.mpr c25
                   (first | rw [c25b0] | (simp only [i64_w, i32_w]; rw [c25b0]) | skip)
                   have H' := Aside0.mk H; clear H; go_wp2
                   go_meet
                   case rel => exact ⟨_, ((((x0_8.extract (x7_2 : Int).toNat (x26_2 : Int).toNat).size : Int) != x6_21)), tS_, H', ⟨by have := HJ8.out; have := HK2.out; have := HJ21.out; first | omega | exact Nat.le_refl _⟩, ⟨dR_ HO_238002⟩, ⟨dB_ BK236⟩, ⟨dB_ BK237⟩, ⟨dL2_ HB GE236 GE237⟩⟩
                 case rest =>
                  clear HC24; (try clear c2); (try clear c2b0); (try clear c2b1); (try clear c6); (try clear c6b0); (try clear c7); (try clear c7b0); (try clear p8); (try clear q8); (try clear hx8); (try clear c11); (try clear c12); (try clear c14); (try clear c14b0); (try clear c15); (try clear c15b0); (try clear c16); (try clear c16b0); (try clear p17); (try clear q17); (try clear hx17); (try clear c18); (try clear c18b0); (try clear c18b1); (try clear c19); (try clear c19b0); (try clear c19b1); (try clear c20); (try clear c20b0); (try clear c20b1); (try clear c21); (try clear c21b0); (try clear c21b1); (try clear c23); (try clear c25); (try clear p17); (try clear p8); (try clear q17); (try clear q8); obtain ⟨kq, x52_23, rfl, HA, HJ23, HO_238002, BK236, BK237, HB⟩ := hcut
                  cases kq with
                  | zero => exact absurd HA.out (by simp [land_Parse.j3])
                  | succ kj23 =>
                   have H := HA.out; clear HA; simp only [land_Parse.j3] at H
                   by_cases c26 : x52_23 = true
                   ·subst c26; rw [if_pos rfl] at H; simp only [Option.some.injEq, Prod.mk.injEq] at H; obtain ⟨rfl, rfl, rfl, rfl, rfl⟩ := H; have hnb27 := NB236_237.out; have hnc27 := NB237_236.out; obtain ⟨z28a, z28b, z28c, y28a, y28b, y28c⟩ := cs3_ BK236.out; go_wp2; refine bodyPost_ret (results_ctt rfl _ _ gb236 26 #[.int .i64 0, .int .i64 0, .slice none 0 0] (0, 0) _ rfl (bz_ BK236) Tryz.underlying26 rfl (by kernel_rfl)) rfl ?_; exact ⟨_, by first | rfl | (simp [errW_none, errW_some] <;> rfl) | (simp only [← hji5]; first | rfl | (simp [errW_none, errW_some] <;> rfl)) | (simp [*, errW_none, errW_some] <;> rfl), by first | exact Kd.R_nil _ _ _ _ _ | exact Kd.N_nil _ _ _ _ _ | exact Kd.V_nil _ _ _ _ _ | exact Kd.Q_nil _ _ _ _ _ | exact Kd.S_nil _ _ _ _ _, dL2_ HB GE236 GE237⟩
                   ·replace c26 := Bool.eq_false_iff.mpr c26; subst c26; rw [if_neg (show ¬ (false = true) by decide)] at H; have H' := Aside0.mk H; clear H; go_wp2
                    go_loopg [57] kj23 (fun kq v57 w' => ∃ (x57_5 : Int) (x237000_5 : Int) (x237001_5 : Int) (x238002_5 : List Int) (u238002 : Value), v57 = .int .i64 x57_5 ∧ Aside0 (land_Parse.l1 kq x0_8 x6_21 (wrap64 (x26_2 + 1)) (wrap64 (x8_2 + 1)) (x0_8.extract (x7_2 : Int).toNat (x26_2 : Int).toNat) (x0_8.size : Int) x26_2 ((x0_8.extract (x7_2 : Int).toNat (x26_2 : Int).toNat).size : Int) x57_5 0 0 x238002_5 = some (r1, r2, r3, r4, r5)) ∧ Aside0 (kq ≤ kj23) ∧ Aside0 (Kd.R (Kd.int .i64) 3 w' w.heap.size (fun _ => True) u238002 x238002_5) ∧ Aside0 (w'.heap[gb236]? = some (.cells #[.int .i64 x237000_5, .int .i64 x237001_5, (.slice none 0 0)] 26 (0, 0))) ∧ Aside0 (w'.heap[gb237]? = some (.cells #[.int .i64 0, .int .i64 0, u238002] 26 (0, 0))) ∧ Aside0 (Below w.heap.size w w'))
                    case atStart => exact ⟨(0), (x237000_2), (x237001_2), (x238002_2), (u238002), tS_, H', ⟨Nat.le_refl _⟩, ⟨dR_ HO_238002⟩, ⟨dB_ BK236⟩, ⟨dB_ BK237⟩, ⟨dL2_ HB GE236 GE237⟩⟩
                    case round =>
                     clear H'; (try clear c2); (try clear c2b0); (try clear c2b1); (try clear c6); (try clear c6b0); (try clear c7); (try clear c7b0); (try clear p8); (try clear q8); (try clear hx8); (try clear c11); (try clear c12); (try clear c14); (try clear c14b0); (try clear c15); (try clear c15b0); (try clear c16); (try clear c16b0); (try clear p17); (try clear q17); (try clear hx17); (try clear c18); (try clear c18b0); (try clear c18b1); (try clear c19); (try clear c19b0); (try clear c19b1); (try clear c20); (try clear c20b0); (try clear c20b1); (try clear c21); (try clear c21b0); (try clear c21b1); (try clear c23); (try clear c25); (try clear c26); (try clear p17); (try clear p8); (try clear q17); (try clear q8); obtain ⟨x57_5, x237000_5, x237001_5, x238002_5, u238002, rfl, HA, HK5, HO_238002, BK236, BK237, HB⟩ := hrel
                     cases gk with
                     | zero => exact absurd HA.out (by simp [land_Parse.l1])
                     | succ k5 =>
                      have H := HA.out; clear HA; simp only [land_Parse.l1] at H
                      by_cases c29 : x57_5 < ((x0_8.extract (x7_2 : Int).toNat (x26_2 : Int).toNat).size : Int)
                      ·rw [if_pos c29] at H; have c29b0 : decide (x57_5 < ((x0_8.extract (x7_2 : Int).toNat (x26_2 : Int).toNat).size : Int)) = true := decide_eq_true c29; clear c29; have HC30 := Aside0.mk H; clear H
                       go_upto_region 21 with (fail)
                       go_cut [69] (fun v69 wc => ∃ (kq : Nat) (x69_29 : Bool), v69 = .bool x69_29 ∧ Aside0 (land_Parse.j5 kq x0_8 x6_21 (wrap64 (x26_2 + 1)) (wrap64 (x8_2 + 1)) (x0_8.extract (x7_2 : Int).toNat (x26_2 : Int).toNat) x57_5 (x0_8.size : Int) x26_2 ((x0_8.extract (x7_2 : Int).toNat (x26_2 : Int).toNat).size : Int) x57_5 x69_29 0 0 x238002_5 = some (r1, r2, r3, r4, r5)) ∧ Aside0 (kq ≤ k5) ∧ Aside0 (Kd.R (Kd.int .i64) 3 wc w.heap.size (fun _ => True) u238002 x238002_5) ∧ Aside0 (wc.heap[gb236]? = some (.cells #[.int .i64 x237000_5, .int .i64 x237001_5, (.slice none 0 0)] 26 (0, 0))) ∧ Aside0 (wc.heap[gb237]? = some (.cells #[.int .i64 0, .int .i64 0, u238002] 26 (0, 0))) ∧ Aside0 (Below w.heap.size w wc))
                       case first =>
                        have H := HC30.out; clear HC30
                        by_cases c31 : 0 ≤ x57_5
                        ·rw [if_pos c31] at H; have c31b0 : decide (0 ≤ x57_5) = true := decide_eq_true c31; clear c31
                         (first | rw [c31b0] | (simp only [i64_w, i32_w]; rw [c31b0]) | skip)
                         by_cases c32 : x57_5 < ((x0_8.extract (x7_2 : Int).toNat (x26_2 : Int).toNat).size : Int)
                         ·rw [if_pos c32] at H; have c32b0 : decide (x57_5 < ((x0_8.extract (x7_2 : Int).toNat (x26_2 : Int).toNat).size : Int)) = true := decide_eq_true c32; clear c32
                          by_cases c34 : (bt (x0_8.extract (x7_2 : Int).toNat (x26_2 : Int).toNat) x57_5) < 97
                          ·rw [if_pos c34] at H; have c34b0 : decide ((bt (x0_8.extract (x7_2 : Int).toNat (x26_2 : Int).toNat) x57_5) < 97) = true := decide_eq_true c34; clear c34; have H' := Aside0.mk H; clear H; have p33 : 0 ≤ (x57_5 : Int) := of_decide_eq_true tW_; have q33 : x57_5 < ((x0_8.extract (x7_2 : Int).toNat (x26_2 : Int).toNat).size : Int) := of_decide_eq_true tW_; have hx33 := bt_at (x0_8.extract (x7_2 : Int).toNat (x26_2 : Int).toNat) x57_5; replace p33 := eq_true p33; replace q33 := eq_true q33; go_wp2
                           go_meet
                           case rel => exact ⟨_, (true), tS_, H', ⟨by have := HJ8.out; have := HK2.out; have := HJ21.out; have := HJ23.out; have := HK5.out; first | omega | exact Nat.le_refl _⟩, ⟨dR_ HO_238002⟩, ⟨dB_ BK236⟩, ⟨dB_ BK237⟩, ⟨dL2_ HB GE236 GE237⟩⟩
                          ·rw [if_neg c34] at H; have c34b0 : decide ((bt (x0_8.extract (x7_2 : Int).toNat (x26_2 : Int).toNat) x57_5) < 97) = false := decide_eq_false c34; clear c34; have H' := Aside0.mk H; clear H; have p33 : 0 ≤ (x57_5 : Int) := of_decide_eq_true tW_; have q33 : x57_5 < ((x0_8.extract (x7_2 : Int).toNat (x26_2 : Int).toNat).size : Int) := of_decide_eq_true tW_; have hx33 := bt_at (x0_8.extract (x7_2 : Int).toNat (x26_2 : Int).toNat) x57_5; replace p33 := eq_true p33; replace q33 := eq_true q33; have p35 : 0 ≤ (x57_5 : Int) := of_decide_eq_true tW_; have q35 : x57_5 < ((x0_8.extract (x7_2 : Int).toNat (x26_2 : Int).toNat).size : Int) := of_decide_eq_true tW_; have hx35 := bt_at (x0_8.extract (x7_2 : Int).toNat (x26_2 : Int).toNat) x57_5; replace p35 := eq_true p35; replace q35 := eq_true q35; go_wp2
                           go_meet
                           case rel => exact ⟨_, (decide ((bt (x0_8.extract (x7_2 : Int).toNat (x26_2 : Int).toNat) x57_5) > 112)), tS_, H', ⟨by have := HJ8.out; have := HK2.out; have := HJ21.out; have := HJ23.out; have := HK5.out; first | omega | exact Nat.le_refl _⟩, ⟨dR_ HO_238002⟩, ⟨dB_ BK236⟩, ⟨dB_ BK237⟩, ⟨dL2_ HB GE236 GE237⟩⟩
                         ·rw [if_neg c32] at H; exact absurd H (by simp)
                        ·rw [if_neg c31] at H; exact absurd H (by simp)
                       case rest =>
                        clear HC30; (try clear c2); (try clear c2b0); (try clear c2b1); (try clear c6); (try clear c6b0); (try clear c7); (try clear c7b0); (try clear p8); (try clear q8); (try clear hx8); (try clear c11); (try clear c12); (try clear c14); (try clear c14b0); (try clear c15); (try clear c15b0); (try clear c16); (try clear c16b0); (try clear p17); (try clear q17); (try clear hx17); (try clear c18); (try clear c18b0); (try clear c18b1); (try clear c19); (try clear c19b0); (try clear c19b1); (try clear c20); (try clear c20b0); (try clear c20b1); (try clear c21); (try clear c21b0); (try clear c21b1); (try clear c23); (try clear c25); (try clear c26); (try clear c29); (try clear c29b0); (try clear c31); (try clear c32); (try clear c34); (try clear p17); (try clear p8); (try clear q17); (try clear q8); obtain ⟨kq, x69_29, rfl, HA, HJ29, HO_238002, BK236, BK237, HB⟩ := hcut
                        cases kq with
                        | zero => exact absurd HA.out (by simp [land_Parse.j5])
                        | succ kj29 =>
                         have H := HA.out; clear HA; simp only [land_Parse.j5] at H
                         by_cases c36 : x69_29 = true
                         ·subst c36; rw [if_pos rfl] at H; simp only [Option.some.injEq, Prod.mk.injEq] at H; obtain ⟨rfl, rfl, rfl, rfl, rfl⟩ := H; have hnb37 := NB236_237.out; have hnc37 := NB237_236.out; obtain ⟨z38a, z38b, z38c, y38a, y38b, y38c⟩ := cs3_ BK236.out; go_wp2; refine bodyPost_ret (results_ctt rfl _ _ gb236 26 #[.int .i64 0, .int .i64 0, .slice none 0 0] (0, 0) _ rfl (bz_ BK236) Tryz.underlying26 rfl (by kernel_rfl)) rfl ?_; exact ⟨_, by first | rfl | (simp [errW_none, errW_some] <;> rfl) | (simp only [← hji5]; first | rfl | (simp [errW_none, errW_some] <;> rfl)) | (simp [*, errW_none, errW_some] <;> rfl), by first | exact Kd.R_nil _ _ _ _ _ | exact Kd.N_nil _ _ _ _ _ | exact Kd.V_nil _ _ _ _ _ | exact Kd.Q_nil _ _ _ _ _ | exact Kd.S_nil _ _ _ _ _, dL2_ HB GE236 GE237⟩
                         ·replace c36 := Bool.eq_false_iff.mpr c36; subst c36; rw [if_neg (show ¬ (false = true) by decide)] at H
                          by_cases c39 : 0 ≤ x57_5
                          ·rw [if_pos c39] at H; have c39b0 : decide (0 ≤ x57_5) = true := decide_eq_true c39; clear c39
                           by_cases c40 : x57_5 < ((x0_8.extract (x7_2 : Int).toNat (x26_2 : Int).toNat).size : Int)
                           ·rw [if_pos c40] at H; have c40b0 : decide (x57_5 < ((x0_8.extract (x7_2 : Int).toNat (x26_2 : Int).toNat).size : Int)) = true := decide_eq_true c40; clear c40
                            by_cases c42 : x238002_5.length < 17592186044416
                            ·rw [if_pos c42] at H; have LMc42 := Aside0.mk c42; clear c42; obtain ⟨y238, hy238⟩ : ∃ y_ : List Int, y_ = (x238002_5 ++ [((bt (x0_8.extract (x7_2 : Int).toNat (x26_2 : Int).toNat) x57_5) - 97) % 256]) := ⟨_, rfl⟩; replace H : (land_Parse.l1 kj29 x0_8 x6_21 (wrap64 (x26_2 + 1)) (wrap64 (x8_2 + 1)) (x0_8.extract (x7_2 : Int).toNat (x26_2 : Int).toNat) (x0_8.size : Int) x26_2 ((x0_8.extract (x7_2 : Int).toNat (x26_2 : Int).toNat).size : Int) (wrap64 (x57_5 + 1)) 0 0 y238) = some (r1, r2, r3, r4, r5) := by first | (rw [hy238]; with_reducible exact H) | (have H2_ := (Option.bind_some _ _).symm.trans H; rw [hy238]; with_reducible exact H2_) | (have H2_ := (Option.bind_some _ _).symm.trans H; with_reducible exact H2_) | with_reducible exact H | (rw [hy238]; exact H) | exact H
                             have Ny238 := Aside0.mk hy238; clear hy238; have H' := Aside0.mk H; clear H
                             try go_wp2
                             replace HO_238002 := Aside0.mk (Kd.R_drew HO_238002.out); replace BK236 := Aside0.mk (blk_drew BK236.out); replace BK237 := Aside0.mk (blk_drew BK237.out); replace HB := Aside0.mk (below_drew1 HB.out); have p41 : 0 ≤ (x57_5 : Int) := of_decide_eq_true tW_; have q41 : x57_5 < ((x0_8.extract (x7_2 : Int).toNat (x26_2 : Int).toNat).size : Int) := of_decide_eq_true tW_; have hx41 := bt_at (x0_8.extract (x7_2 : Int).toNat (x26_2 : Int).toNat) x57_5; replace p41 := eq_true p41; replace q41 := eq_true q41; refine start_ (n := 11) (S := fun w' => w'.cell? ⟨gb237, 0, none⟩ = some (.int .i64 0) ∧ w'.cell? ⟨gb237, 1, none⟩ = some (.int .i64 0) ∧ w'.cell? ⟨gb237, 2, none⟩ = some (u238002)) (ds := [10]) ⟨bN 11 0⟩ (by kernel_rfl) rfl rfl ⟨(blk_cell BK237.out 0).trans rfl, (blk_cell BK237.out 1).trans rfl, (blk_cell BK237.out 2).trans rfl⟩ (fun hHeld => ?_); refine with_tabW land_Parse.tab23 land_Parse.bits23 (fun HT_ HW_ => ?_)
                             generalize wc.drew = w43 at HO_238002 BK236 BK237 HB hHeld ⊢; refine pu_ (i := 0) (N := some 72) (bA 1 11) HT_ rfl ?_; refine pu_ (i := 2) (N := some 74) ⟨bN 11 5⟩ HT_ rfl ?_; refine pu_ (i := 3) (N := some 75) ⟨bN 11 13⟩ HT_ rfl ?_; refine tk_ (i := 1) (N := some 73) (bA 4 11) HT_ HW_ hHeld rfl ?_; refine tk_ (i := 4) (N := some 76) (bA 5 11) HT_ HW_ hHeld rfl ?_; refine pu_ (i := 5) (N := some 77) (bA 6 11) HT_ rfl ?_; refine pu_ (i := 6) (N := some 78) (bA 7 11) HT_ rfl ?_; refine on_ (i := 7) (N := some 79) (bA 8 11) HT_ rfl (fun K hK => ?_); refine value_ (w1 := ?_) (v := ?_) (by rfl) rfl ?_ ?_
                             rotate_left 2
                             ·go_simp
                              constructor
                              ·rfl
                              ·rfl
                             refine hK.out _ _ ⟨(blk_cell (blk_alloc BK237.out _) 0).trans rfl, (blk_cell (blk_alloc BK237.out _) 1).trans rfl, (blk_cell (blk_alloc BK237.out _) 2).trans rfl⟩ (fun hHeld => ?_); clear hK K; refine norm_ (a' := ?_) ?_ ?_
                             rotate_left
                             ·show Act.put _ (some 79) _ = _
                              simp only [Act.put, sI_, s0_, sS_, i64_w, i32_w]
                              rfl
                             refine on_ (i := 8) (N := some 80) (bA 9 11) HT_ rfl (fun K hK => ?_); have e9_ : ∀ x : Int, wrap64 (IntKind.u8.wrap x) = x % 256 := fun x => by rw [show IntKind.u8.wrap x = x % 256 by simp [IntKind.wrap, IntKind.signed, IntKind.bits]]; unfold wrap64; omega
                             rw [e9_]; refine Kd.R_append_step (Kd.int .i64) (w0 := w) w.heap.size (by rfl) (.tmp 73) (.tmp 79) 24 3 (.int .i64 0) 8 rfl Tryz.underlying24 info3 rfl (by decide) (by omega) u238002 x238002_5 (((bt (x0_8.extract (x7_2 : Int).toNat (x26_2 : Int).toNat) x57_5) - 97) % 256) [.int .i64 (((bt (x0_8.extract (x7_2 : Int).toNat (x26_2 : Int).toNat) x57_5) - 97) % 256)] (fun _ => True) (fun _ => False) rfl rfl ?aP (fun _ hk => hk.elim) ?aF ?aO ?aB ?aS ?aL ?_
                             (case aP => exact rfl)
                             (case aB => exact (dL2_ HB GE236 GE237))
                             (case aF => exact (fun _ _ => trivial))
                             (case aO => exact (dR_ HO_238002))
                             (case aS => exact (below_size (dL2_ HB GE236 GE237)))
                             (case aL => have := LMc42.out; omega)
                             intro v239 w44 ho hb hg hat; rw [← Ny238.out] at ho; replace BK236 := Aside0.mk (blk_grown (g := gb236) (o := .cells #[.int .i64 x237000_5, .int .i64 x237001_5, .slice none 0 0] 26 (0, 0)) (dB_ BK236) hg (Kd.R_ne HO_238002.out BK236.out (by decide))); replace BK237 := Aside0.mk (blk_grown (g := gb237) (o := .cells #[.int .i64 0, .int .i64 0, u238002] 26 (0, 0)) (dB_ BK237) hg (Kd.R_ne HO_238002.out BK237.out (by decide))); replace HB := Aside0.mk (hb); have HO240 := Aside0.mk (ho); clear HO_238002; clear ho hb hg hat; obtain ⟨Ao45, co45, eo45⟩ := Kd.R_slice HO240.out
                             (first | subst eo45 | (injection eo45 with f1_ f2_ f3_; have f4_ := f1_.symm; have f5_ := f3_.symm; clear f1_ f2_ f3_; subst f4_; subst f5_))
                             refine hK.out _ _ ⟨(blk_cell BK237.out 0).trans rfl, (blk_cell BK237.out 1).trans rfl, (blk_cell BK237.out 2).trans rfl⟩ (fun hHeld => ?_); clear hK K; refine norm_ (a' := ?_) ?_ ?_
                             rotate_left
                             ·show Act.put _ (some 80) _ = _
                              simp only [Act.put, sI_, s0_, sS_, i64_w, i32_w]
                              rfl
                             refine pu_ (i := 9) (N := some 81) (bA 10 11) HT_ rfl ?_; refine last_ (i := 10) (N := none) ⟨bN 11 2047⟩ rfl rfl (one_of HT_.out (by kernel_rfl)) (by decide) (fun K hK => ?_); have hs46 : w44.cell? ⟨gb237, 2, none⟩ = some (u238002) := (blk_cell BK237.out 2).trans rfl; have hfs46 := blk_frozen BK237.out 2; have hns46_0 := NB236_237.out; have hms46_0 := NB237_236.out; refine skip_ (w1 := ?_) (by rfl) rfl ?_ ?_
                             rotate_left
                             ·go_simp
                              rfl
                             refine hK.out _ _ ?_; clear hK K; refine done_ (done_of HT_.out (by kernel_rfl)) ?_
                             try go_wp2
                             go_roundg kj29
                             case measure => have := HJ8.out; have := HK2.out; have := HJ21.out; have := HJ23.out; have := HK5.out; have := HJ29.out; omega
                             case rel => exact ⟨(wrap64 (x57_5 + 1)), (x237000_5), (x237001_5), (y238), (.slice Ao45 y238.length co45), tS_, H', ⟨by have := HJ8.out; have := HK2.out; have := HJ21.out; have := HJ23.out; have := HK5.out; have := HJ29.out; omega⟩, ⟨by (with_reducible repeat (first | apply Kd.R_alloc | apply Kd.R_drewN | apply Kd.R_drew)); exact Kd.R_mono (fz1_ HO240 BK237) (fun _ hk => trivial)⟩, ⟨bz_ BK236⟩, ⟨bz_ BK237⟩, ⟨dL2_ HB GE236 GE237⟩⟩
                            ·rw [if_neg c42] at H; exact absurd H (by simp)
                           ·rw [if_neg c40] at H; exact absurd H (by simp)
                          ·rw [if_neg c39] at H; exact absurd H (by simp)
                      ·rw [if_neg c29] at H; have c29b0 : decide (x57_5 < ((x0_8.extract (x7_2 : Int).toNat (x26_2 : Int).toNat).size : Int)) = false := decide_eq_false c29; clear c29; have H' := Aside0.mk H; clear H; go_wp2
                       go_roundg k5
                       case measure => have := HJ8.out; have := HK2.out; have := HJ21.out; have := HJ23.out; have := HK5.out; omega
                       case rel => exact ⟨(x6_21), ((wrap64 (x26_2 + 1))), ((wrap64 (x8_2 + 1))), (wrap64 (x26_2 + 1)), (x237000_5), (x237001_5), (x238002_5), (u238002), tS_, tS_, tS_, tS_, H', ⟨by have := HJ8.out; have := HK2.out; have := HJ21.out; have := HJ23.out; have := HK5.out; omega⟩, ⟨dR_ HO_238002⟩, ⟨dB_ BK236⟩, ⟨dB_ BK237⟩, ⟨dL2_ HB GE236 GE237⟩⟩
              ·rw [if_neg c21] at H; exact absurd H (by simp)
             ·rw [if_neg c20] at H; exact absurd H (by simp)
            ·rw [if_neg c19] at H; exact absurd H (by simp)
           ·rw [if_neg c18] at H; have c18b0 : ((bt x0_8 x26_2) == 10) = false := beq_eq_false_iff_ne.mpr c18; have c18b1 : ((bt x0_8 x26_2) != 10) = true := bne_iff_ne.mpr c18; have H' := Aside0.mk H; clear H; have p17 : 0 ≤ (x26_2 : Int) := of_decide_eq_true tW_; have q17 : x26_2 < (x0_8.size : Int) := of_decide_eq_true tW_; have hx17 := bt_at x0_8 x26_2; replace p17 := eq_true p17; replace q17 := eq_true q17; go_wp2
            go_roundg k2
            case measure => have := HJ8.out; have := HK2.out; omega
            case rel => exact ⟨(x6_2), (x7_2), (x8_2), (wrap64 (x26_2 + 1)), (x237000_2), (x237001_2), (x238002_2), (u238002), tS_, tS_, tS_, tS_, H', ⟨by have := HJ8.out; have := HK2.out; omega⟩, ⟨dR_ HO_238002⟩, ⟨dB_ BK236⟩, ⟨dB_ BK237⟩, ⟨dL2_ HB GE236 GE237⟩⟩
          ·rw [if_neg c16] at H; exact absurd H (by simp)
         ·rw [if_neg c15] at H; exact absurd H (by simp)
        ·rw [if_neg c14] at H; have c14b0 : decide (x26_2 < (x0_8.size : Int)) = false := decide_eq_false c14; clear c14; replace H := Option.bind_eq_some_iff.mp H; obtain ⟨t241, A470, H⟩ := H; have A47 := Aside0.mk A470; clear A470
         by_cases c48 : t241 = 0
         ·rw [if_pos c48] at H; have c48b0 : (t241 == 0) = true := beq_iff_eq.mpr c48; have c48b1 : (t241 != 0) = false := bne_eq_false_iff_eq.mpr c48; clear c48; simp only [Option.some.injEq, Prod.mk.injEq] at H; obtain ⟨rfl, rfl, rfl, rfl, rfl⟩ := H; have hnb49 := NB237_236.out; have hnc49 := NB236_237.out; obtain ⟨z50a, z50b, z50c, y50a, y50b, y50c⟩ := cs3_ BK237.out; obtain ⟨Ao51, co51, eo51⟩ := Kd.R_slice HO_238002.out; subst eo51
          go_wp2_with (first | ((with_reducible refine gate_callee (f := 8) rfl ?_); refine gL_ (some 91) Tryz.func8 #[.agg #[.int .i64 (wrap64 (x6_2 - 1)), .int .i64 (wrap64 (x8_2 - 1)), .slice Ao51 x238002_2.length co51]] ?_ rfl; (with_reducible refine (land_Validate.calls k2 (wrap64 (x6_2 - 1)) (wrap64 (x8_2 - 1)) _ _ x238002_2 t241 _ ?side1 ?side2 A47.out).mono ?_); (case side1 => refine (Kd.R_reads' (e := 3) (base := w.heap.size) (ok := fun k_ => True) (n := x238002_2.length) (c := co51) ?_).2.2; exact (rz1_ HO_238002 BK237)); (case side2 => exact (Kd.R_reads' HO_238002.out).2.1); rintro e w52 ⟨rfl, hb⟩; refine ⟨_, rfl, ?_⟩; replace HO_238002 := Aside0.mk (Kd.R_below (rz1_ HO_238002 BK237) hb); replace BK236 := Aside0.mk (blk_below (g := gb236) (o := .cells #[.int .i64 x237000_2, .int .i64 x237001_2, .slice none 0 0] 26 (0, 0)) (bz_ BK236) hb); replace BK237 := Aside0.mk (blk_below (g := gb237) (o := .cells #[.int .i64 (wrap64 (x6_2 - 1)), .int .i64 (wrap64 (x8_2 - 1)), .slice Ao51 x238002_2.length co51] 26 (0, 0)) (bz_ BK237) hb); replace HB := Aside0.mk (below_step (dL2_ HB GE236 GE237) hb); obtain ⟨z53a, z53b, z53c, y53a, y53b, y53c⟩ := cs3_ BK237.out; obtain ⟨z54a, z54b, z54c, y54a, y54b, y54c⟩ := cs3_ BK236.out))
          refine bodyPost_ret (results_ctt rfl _ _ gb236 26 #[.int .i64 (wrap64 (x6_2 - 1)), .int .i64 (wrap64 (x8_2 - 1)), .slice Ao51 x238002_2.length co51] (0, 0) _ rfl (bz_ BK236) Tryz.underlying26 rfl (by kernel_rfl)) rfl ?_; exact ⟨_, by first | rfl | (simp [errW_none, errW_some] <;> rfl) | (simp only [← hji5]; first | rfl | (simp [errW_none, errW_some] <;> rfl)) | (simp [*, errW_none, errW_some] <;> rfl), by (with_reducible repeat (first | apply Kd.R_alloc | apply Kd.R_drewN | apply Kd.R_drew)); exact Kd.R_mono (fz1_ HO_238002 BK236) (fun _ hk => trivial), dL2_ HB GE236 GE237⟩
         ·rw [if_neg c48] at H; have c48b0 : (t241 == 0) = false := beq_eq_false_iff_ne.mpr c48; have c48b1 : (t241 != 0) = true := bne_iff_ne.mpr c48; simp only [Option.some.injEq, Prod.mk.injEq] at H; obtain ⟨rfl, rfl, rfl, rfl, rfl⟩ := H; have hnb55 := NB237_236.out; have hnc55 := NB236_237.out; obtain ⟨z56a, z56b, z56c, y56a, y56b, y56c⟩ := cs3_ BK237.out; obtain ⟨Ao57, co57, eo57⟩ := Kd.R_slice HO_238002.out; subst eo57
          go_wp2_with (first | ((with_reducible refine gate_callee (f := 8) rfl ?_); refine gL_ (some 91) Tryz.func8 #[.agg #[.int .i64 (wrap64 (x6_2 - 1)), .int .i64 (wrap64 (x8_2 - 1)), .slice Ao57 x238002_2.length co57]] ?_ rfl; (with_reducible refine (land_Validate.calls k2 (wrap64 (x6_2 - 1)) (wrap64 (x8_2 - 1)) _ _ x238002_2 t241 _ ?side1 ?side2 A47.out).mono ?_); (case side1 => refine (Kd.R_reads' (e := 3) (base := w.heap.size) (ok := fun k_ => True) (n := x238002_2.length) (c := co57) ?_).2.2; exact (rz1_ HO_238002 BK237)); (case side2 => exact (Kd.R_reads' HO_238002.out).2.1); rintro e w58 ⟨rfl, hb⟩; refine ⟨_, rfl, ?_⟩; replace HO_238002 := Aside0.mk (Kd.R_below (rz1_ HO_238002 BK237) hb); replace BK236 := Aside0.mk (blk_below (g := gb236) (o := .cells #[.int .i64 x237000_2, .int .i64 x237001_2, .slice none 0 0] 26 (0, 0)) (bz_ BK236) hb); replace BK237 := Aside0.mk (blk_below (g := gb237) (o := .cells #[.int .i64 (wrap64 (x6_2 - 1)), .int .i64 (wrap64 (x8_2 - 1)), .slice Ao57 x238002_2.length co57] 26 (0, 0)) (bz_ BK237) hb); replace HB := Aside0.mk (below_step (dL2_ HB GE236 GE237) hb); obtain ⟨z59a, z59b, z59c, y59a, y59b, y59c⟩ := cs3_ BK236.out))
          refine bodyPost_ret (results_ctt rfl _ _ gb236 26 #[.int .i64 0, .int .i64 0, .slice none 0 0] (0, 0) _ rfl (bz_ BK236) Tryz.underlying26 rfl (by kernel_rfl)) rfl ?_; exact ⟨_, by first | rfl | (simp [errW_none, errW_some] <;> rfl) | (simp only [← hji5]; first | rfl | (simp [errW_none, errW_some] <;> rfl)) | (simp [*, errW_none, errW_some] <;> rfl), by first | exact Kd.R_nil _ _ _ _ _ | exact Kd.N_nil _ _ _ _ _ | exact Kd.V_nil _ _ _ _ _ | exact Kd.Q_nil _ _ _ _ _ | exact Kd.S_nil _ _ _ _ _, dL2_ HB GE236 GE237⟩
   ·rw [if_neg c7] at H; exact absurd H (by simp)
  ·rw [if_neg c6] at H; exact absurd H (by simp)

end Go.Proofs.YtldbkigenaakkaaGreatDoor.Q
namespace Go.Proofs.YtldbkigenaakkaaGreatDoor.Q
open Go.RowKit Go.Proofs.YtldbkigenaakkaaGreatDoorPrs Go.Proofs.YtldbkigenaakkaaGreatDoorOwn Go.Proofs.YtldbkigenaakkaaGreatDoorW.PrintWords Go.Proofs.YtldbkigenaakkaaGreatDoorW.PrintLast Go.Proofs.YtldbkigenaakkaaGreatDoorW.PrintMore
attribute [local go_sem] max2_int min2_int max_two min_two max_three min_three max_four min_four   -- for this text's walks alone
set_option linter.unusedVariables false
set_option linter.unusedSimpArgs false

/-! ### hinterlandsame_List_int: function 27 -/
def hinterlandsame_List_int.l0 : Nat → List Int → List Int → Int → Option (Bool)
  | 0, _, _, _ => none
  | k + 1, x0, x1, x5 => if x5 < (x0.length : Int) then (if 0 ≤ x5 then (if x5 < (x1.length : Int) then (if (rd x0 x5) = (rd x1 x5) then (hinterlandsame_List_int.l0 k x0 x1 (wrap64 (x5 + 1))) else (some false)) else (none)) else (none)) else (some true)
def hinterlandsame_List_int.f (k : Nat) (l0 : List Int) (l1 : List Int) : Option (Bool) := if (l0.length : Int) = (l1.length : Int) then (hinterlandsame_List_int.l0 k l0 l1 0) else (some false)
theorem hinterlandsame_List_int.mono_l : ∀ k, (∀ y0 y1 y2, LeO (hinterlandsame_List_int.l0 k y0 y1 y2) (hinterlandsame_List_int.l0 (k + 1) y0 y1 y2))
  | 0 => fun _ _ _ r h => by simp [hinterlandsame_List_int.l0] at h
  | k + 1 => by
    have ih0 := hinterlandsame_List_int.mono_l k
    · intro y0 y1 y2
      unfold hinterlandsame_List_int.l0
      repeat' first
      | (with_reducible first | apply ih0 | exact LeO.refl _ | exact LeO.none _ | refine LeO.ite ?_ ?_ | refine LeO.bind ?_ (fun _ => ?_))
theorem hinterlandsame_List_int.mono : ∀ a0 a1 k, LeO (hinterlandsame_List_int.f k a0 a1) (hinterlandsame_List_int.f (k + 1) a0 a1) := by
  intro a0 a1 k; have ih0 := hinterlandsame_List_int.mono_l k
  unfold hinterlandsame_List_int.f
  repeat' first
      | (with_reducible first | apply ih0 | exact LeO.refl _ | exact LeO.none _ | refine LeO.ite ?_ ?_ | refine LeO.bind ?_ (fun _ => ?_))
set_option maxHeartbeats 8000000 in
set_option maxRecDepth 100000 in
theorem hinterlandsame_List_int.calls (k : Nat) (A0 : Option Addr) (c0 : Nat) (l0 : List Int) (A1 : Option Addr) (c1 : Nat) (l1 : List Int) (r : Bool) (w : World) (hr0 : Kd.C (Kd.int .i64) w A0 l0.length l0) (hc0 : l0.length ≤ c0) (hr1 : Kd.C (Kd.int .i64) w A1 l1.length l1) (hc1 : l1.length ≤ c1) (h : hinterlandsame_List_int.f k l0 l1 = some r) :
    Calls Tryz.prog 27 #[.slice A0 l0.length c0, .slice A1 l1.length c1] w fun e w' => e = .returned (.bool r) ∧ Drawn0 w w' := by
 have HR0 := Aside0.mk hr0; have HC0 := Aside0.mk hc0; clear hr0 hc0; have HR1 := Aside0.mk hr1; have HC1 := Aside0.mk hc1; clear hr1 hc1; have H : (if (l0.length : Int) = (l1.length : Int) then (hinterlandsame_List_int.l0 k l0 l1 0) else (some false)) = some r := h; clear h
 by_cases c3 : (l0.length : Int) = (l1.length : Int)
 ·rw [if_pos c3] at H; have c3b0 : ((l0.length : Int) == (l1.length : Int)) = true := beq_iff_eq.mpr c3; have c3b1 : ((l0.length : Int) != (l1.length : Int)) = false := bne_eq_false_iff_eq.mpr c3; have c3b2 : (l0.length == l1.length) = true := by first | simpa using c3 | (simp at c3 ⊢; omega)
  clear c3; have H' := Aside0.mk H; clear H
  go_enter Tryz.func27, Tryz.ntmps27
  go_wp2
  repeat (go_quiet (fail); try go_wp2)
  go_loopg [5] k (fun kq v5 w' => ∃ (x5_1 : Int), v5 = .int .i64 x5_1 ∧ Aside0 (hinterlandsame_List_int.l0 kq l0 l1 x5_1 = some r) ∧ Aside0 (kq ≤ k) ∧ Drawn0 w w')
  case atStart => exact ⟨(0), tS_, H', ⟨Nat.le_refl _⟩, by repeat (first | exact Drawn0.refl _ | apply Drawn0.step)⟩
  case round =>
   clear H'; (try clear c1); (try clear c3); (try clear c3b0); (try clear c3b1); (try clear c3b2); obtain ⟨x5_1, rfl, HA, HK1, ⟨m1, rfl⟩⟩ := hrel
   cases gk with
   | zero => exact absurd HA.out (by simp [hinterlandsame_List_int.l0])
   | succ k1 =>
    have H := HA.out; clear HA; simp only [hinterlandsame_List_int.l0] at H
    by_cases c4 : x5_1 < (l0.length : Int)
    ·rw [if_pos c4] at H; have c4b0 : decide (x5_1 < (l0.length : Int)) = true := decide_eq_true c4; clear c4
     by_cases c5 : 0 ≤ x5_1
     ·rw [if_pos c5] at H; have c5b0 : decide (0 ≤ x5_1) = true := decide_eq_true c5; clear c5
      by_cases c6 : x5_1 < (l1.length : Int)
      ·rw [if_pos c6] at H; have c6b0 : decide (x5_1 < (l1.length : Int)) = true := decide_eq_true c6; clear c6
       by_cases c7 : (rd l0 x5_1) = (rd l1 x5_1)
       ·rw [if_pos c7] at H; have c7b0 : ((rd l0 x5_1) == (rd l1 x5_1)) = true := beq_iff_eq.mpr c7; have c7b1 : ((rd l0 x5_1) != (rd l1 x5_1)) = false := bne_eq_false_iff_eq.mpr c7; clear c7; have H' := Aside0.mk H; clear H; have p242 : 0 ≤ (x5_1 : Int) := of_decide_eq_true tW_; have q242 : x5_1 < (l0.length : Int) := of_decide_eq_true tW_; obtain ⟨ad242, e242, hx242_0⟩ := Kd.at_int HR0.out x5_1 p242 q242; cases e242; replace p242 := eq_true p242; replace q242 := eq_true q242; have p243 : 0 ≤ (x5_1 : Int) := of_decide_eq_true tW_; have q243 : x5_1 < (l1.length : Int) := of_decide_eq_true tW_; obtain ⟨ad243, e243, hx243_0⟩ := Kd.at_int HR1.out x5_1 p243 q243; cases e243; replace p243 := eq_true p243; replace q243 := eq_true q243; go_wp2
        repeat (go_quiet (fail); try go_wp2)
        go_roundg k1
        case measure => have := HK1.out; omega
        case rel => exact ⟨(wrap64 (x5_1 + 1)), tS_, H', ⟨by have := HK1.out; omega⟩, by repeat (first | exact Drawn0.refl _ | apply Drawn0.step)⟩
       ·rw [if_neg c7] at H; have c7b0 : ((rd l0 x5_1) == (rd l1 x5_1)) = false := beq_eq_false_iff_ne.mpr c7; have c7b1 : ((rd l0 x5_1) != (rd l1 x5_1)) = true := bne_iff_ne.mpr c7; obtain rfl := Option.some.inj H; have p242 : 0 ≤ (x5_1 : Int) := of_decide_eq_true tW_; have q242 : x5_1 < (l0.length : Int) := of_decide_eq_true tW_; obtain ⟨ad242, e242, hx242_0⟩ := Kd.at_int HR0.out x5_1 p242 q242; cases e242; replace p242 := eq_true p242; replace q242 := eq_true q242; have p243 : 0 ≤ (x5_1 : Int) := of_decide_eq_true tW_; have q243 : x5_1 < (l1.length : Int) := of_decide_eq_true tW_; obtain ⟨ad243, e243, hx243_0⟩ := Kd.at_int HR1.out x5_1 p243 q243; cases e243; replace p243 := eq_true p243; replace q243 := eq_true q243; go_wp2
        repeat (go_quiet (fail); try go_wp2)
        go_ret
        exact ⟨tS_, by repeat (first | exact Drawn0.refl _ | apply Drawn0.step)⟩
      ·rw [if_neg c6] at H; exact absurd H (by simp)
     ·rw [if_neg c5] at H; exact absurd H (by simp)
    ·rw [if_neg c4] at H; have c4b0 : decide (x5_1 < (l0.length : Int)) = false := decide_eq_false c4; clear c4; obtain rfl := Option.some.inj H; go_wp2
     repeat (go_quiet (fail); try go_wp2)
     go_ret
     exact ⟨tS_, by repeat (first | exact Drawn0.refl _ | apply Drawn0.step)⟩
 ·rw [if_neg c3] at H; have c3b0 : ((l0.length : Int) == (l1.length : Int)) = false := beq_eq_false_iff_ne.mpr c3; have c3b1 : ((l0.length : Int) != (l1.length : Int)) = true := bne_iff_ne.mpr c3; have c3b2 : (l0.length == l1.length) = false := by first | simpa using c3 | (simp at c3 ⊢; omega)
  obtain rfl := Option.some.inj H
  go_enter Tryz.func27, Tryz.ntmps27
  go_wp2
  repeat (go_quiet (fail); try go_wp2)
  go_ret
  exact ⟨tS_, by repeat (first | exact Drawn0.refl _ | apply Drawn0.step)⟩

end Go.Proofs.YtldbkigenaakkaaGreatDoor.Q
namespace Go.Proofs.YtldbkigenaakkaaGreatDoor.Q
open Go.RowKit Go.Proofs.YtldbkigenaakkaaGreatDoorPrs Go.Proofs.YtldbkigenaakkaaGreatDoorOwn Go.Proofs.YtldbkigenaakkaaGreatDoorW.PrintWords Go.Proofs.YtldbkigenaakkaaGreatDoorW.PrintLast Go.Proofs.YtldbkigenaakkaaGreatDoorW.PrintMore
attribute [local go_sem] max2_int min2_int max_two min_two max_three min_three max_four min_four   -- for this text's walks alone
set_option linter.unusedVariables false
set_option linter.unusedSimpArgs false

/-! ### hinterlandsame_Land: function 12 -/
def hinterlandsame_Land.f (k : Nat) (a0_0 : Int) (a0_1 : Int) (l0_2 : List Int) (a1_0 : Int) (a1_1 : Int) (l1_2 : List Int) : Option (Bool) := if a0_0 = a1_0 then (if a0_1 = a1_1 then ((hinterlandsame_List_int.f k l0_2 l1_2).bind fun t246 => (some t246)) else (some false)) else (some false)
theorem hinterlandsame_Land.mono : ∀ a0 a1 a2 a3 a4 a5 k, LeO (hinterlandsame_Land.f k a0 a1 a2 a3 a4 a5) (hinterlandsame_Land.f (k + 1) a0 a1 a2 a3 a4 a5) := by
  intro a0 a1 a2 a3 a4 a5 k
  unfold hinterlandsame_Land.f
  repeat' first
      | (with_reducible first | apply hinterlandsame_List_int.mono | exact LeO.refl _ | exact LeO.none _ | refine LeO.ite ?_ ?_ | refine LeO.bind ?_ (fun _ => ?_))
set_option maxHeartbeats 8000000 in
set_option maxRecDepth 100000 in
theorem hinterlandsame_Land.calls (k : Nat) (a0_0 : Int) (a0_1 : Int) (A0_2 : Option Addr) (c0_2 : Nat) (l0_2 : List Int) (a1_0 : Int) (a1_1 : Int) (A1_2 : Option Addr) (c1_2 : Nat) (l1_2 : List Int) (r : Bool) (w : World) (hr0_2 : Kd.C (Kd.int .i64) w A0_2 l0_2.length l0_2) (hc0_2 : l0_2.length ≤ c0_2) (hr1_2 : Kd.C (Kd.int .i64) w A1_2 l1_2.length l1_2) (hc1_2 : l1_2.length ≤ c1_2) (h : hinterlandsame_Land.f k a0_0 a0_1 l0_2 a1_0 a1_1 l1_2 = some r) :
    Calls Tryz.prog 12 #[.agg #[.int .i64 a0_0, .int .i64 a0_1, .slice A0_2 l0_2.length c0_2], .agg #[.int .i64 a1_0, .int .i64 a1_1, .slice A1_2 l1_2.length c1_2]] w fun e w' => e = .returned (.bool r) ∧ Below w.heap.size w w' := by
 have hu26 := Tryz.underlying26; have HR0_2 := Aside0.mk hr0_2; have HC0_2 := Aside0.mk hc0_2; clear hr0_2 hc0_2; have HR1_2 := Aside0.mk hr1_2; have HC1_2 := Aside0.mk hc1_2; clear hr1_2 hc1_2; have HB := Aside0.mk (Below.refl w.heap.size w); have H : (if a0_0 = a1_0 then (if a0_1 = a1_1 then ((hinterlandsame_List_int.f k l0_2 l1_2).bind fun t246 => (some t246)) else (some false)) else (some false)) = some r := h; clear h
 by_cases c3 : a0_0 = a1_0
 ·rw [if_pos c3] at H; have c3b0 : (a0_0 == a1_0) = true := beq_iff_eq.mpr c3; have c3b1 : (a0_0 != a1_0) = false := bne_eq_false_iff_eq.mpr c3; clear c3
  by_cases c4 : a0_1 = a1_1
  ·rw [if_pos c4] at H; have c4b0 : (a0_1 == a1_1) = true := beq_iff_eq.mpr c4; have c4b1 : (a0_1 != a1_1) = false := bne_eq_false_iff_eq.mpr c4; clear c4; replace H := Option.bind_eq_some_iff.mp H; obtain ⟨t246, A50, H⟩ := H; have A5 := Aside0.mk A50; clear A50; obtain rfl := Option.some.inj H
   go_enter Tryz.func12, Tryz.ntmps12
   go_wp2_with (first | ((with_reducible refine gate_dst (N := 2) rfl ?_); refine bx_ (N := 2) (cs := #[.int .i64 a0_0, .int .i64 a0_1, .slice A0_2 l0_2.length c0_2]) (t := 26) ?_; intro gb244 hg w6 hbox hb; have BK244 := Aside0.mk (hbox); have GW244 := Aside0.mk ((dS_ hg (dL_ HB) : w.heap.size ≤ gb244)); have GE244 := GW244; replace HB := Aside0.mk (below_step (dL_ HB) hb); clear hb hbox hg) | ((with_reducible refine gate_dst (N := 3) rfl ?_); refine bx_ (N := 3) (cs := #[.int .i64 a1_0, .int .i64 a1_1, .slice A1_2 l1_2.length c1_2]) (t := 26) ?_; intro gb245 hg w7 hbox hb; have BK245 := Aside0.mk (hbox); have GW245 := Aside0.mk ((dS_ hg (dL1_ HB GE244) : w.heap.size ≤ gb245)); have GE245 := GW245; replace HB := Aside0.mk (below_step (dL1_ HB GE244) hb); have NB244_245 := nb_ hg BK244; have NB245_244 := nc_ hg BK244; replace BK244 := bk_ BK244 hb; clear hb hbox hg; have hnb8 := NB244_245.out; have hnc8 := NB245_244.out; obtain ⟨z9a, z9b, z9c, y9a, y9b, y9c⟩ := cs3_ BK244.out; obtain ⟨z10a, z10b, z10c, y10a, y10b, y10c⟩ := cs3_ BK245.out) | (go_at_call 27; (with_reducible refine (hinterlandsame_List_int.calls k _ _ l0_2 _ _ l1_2 t246 _ ?side1 ?side2 ?side3 ?side4 A5.out).mono ?_); (case side1 => exact dC_ HR0_2 HB); (case side2 => exact HC0_2.out); (case side3 => exact dC_ HR1_2 HB); (case side4 => exact HC1_2.out); rintro e w' ⟨rfl, ⟨nd, rfl⟩⟩))
   go_ret
   exact ⟨tE_, dL2_ HB GE244 GE245⟩
  ·rw [if_neg c4] at H; have c4b0 : (a0_1 == a1_1) = false := beq_eq_false_iff_ne.mpr c4; have c4b1 : (a0_1 != a1_1) = true := bne_iff_ne.mpr c4; obtain rfl := Option.some.inj H
   go_enter Tryz.func12, Tryz.ntmps12
   go_wp2_with (first | ((with_reducible refine gate_dst (N := 2) rfl ?_); refine bx_ (N := 2) (cs := #[.int .i64 a0_0, .int .i64 a0_1, .slice A0_2 l0_2.length c0_2]) (t := 26) ?_; intro gb244 hg w11 hbox hb; have BK244 := Aside0.mk (hbox); have GW244 := Aside0.mk ((dS_ hg (dL_ HB) : w.heap.size ≤ gb244)); have GE244 := GW244; replace HB := Aside0.mk (below_step (dL_ HB) hb); clear hb hbox hg) | ((with_reducible refine gate_dst (N := 3) rfl ?_); refine bx_ (N := 3) (cs := #[.int .i64 a1_0, .int .i64 a1_1, .slice A1_2 l1_2.length c1_2]) (t := 26) ?_; intro gb245 hg w12 hbox hb; have BK245 := Aside0.mk (hbox); have GW245 := Aside0.mk ((dS_ hg (dL1_ HB GE244) : w.heap.size ≤ gb245)); have GE245 := GW245; replace HB := Aside0.mk (below_step (dL1_ HB GE244) hb); have NB244_245 := nb_ hg BK244; have NB245_244 := nc_ hg BK244; replace BK244 := bk_ BK244 hb; clear hb hbox hg; have hnb13 := NB244_245.out; have hnc13 := NB245_244.out; obtain ⟨z14a, z14b, z14c, y14a, y14b, y14c⟩ := cs3_ BK244.out; obtain ⟨z15a, z15b, z15c, y15a, y15b, y15c⟩ := cs3_ BK245.out))
   go_ret
   exact ⟨tE_, dL2_ HB GE244 GE245⟩
 ·rw [if_neg c3] at H; have c3b0 : (a0_0 == a1_0) = false := beq_eq_false_iff_ne.mpr c3; have c3b1 : (a0_0 != a1_0) = true := bne_iff_ne.mpr c3; obtain rfl := Option.some.inj H
  go_enter Tryz.func12, Tryz.ntmps12
  go_wp2_with (first | ((with_reducible refine gate_dst (N := 2) rfl ?_); refine bx_ (N := 2) (cs := #[.int .i64 a0_0, .int .i64 a0_1, .slice A0_2 l0_2.length c0_2]) (t := 26) ?_; intro gb244 hg w16 hbox hb; have BK244 := Aside0.mk (hbox); have GW244 := Aside0.mk ((dS_ hg (dL_ HB) : w.heap.size ≤ gb244)); have GE244 := GW244; replace HB := Aside0.mk (below_step (dL_ HB) hb); clear hb hbox hg) | ((with_reducible refine gate_dst (N := 3) rfl ?_); refine bx_ (N := 3) (cs := #[.int .i64 a1_0, .int .i64 a1_1, .slice A1_2 l1_2.length c1_2]) (t := 26) ?_; intro gb245 hg w17 hbox hb; have BK245 := Aside0.mk (hbox); have GW245 := Aside0.mk ((dS_ hg (dL1_ HB GE244) : w.heap.size ≤ gb245)); have GE245 := GW245; replace HB := Aside0.mk (below_step (dL1_ HB GE244) hb); have NB244_245 := nb_ hg BK244; have NB245_244 := nc_ hg BK244; replace BK244 := bk_ BK244 hb; clear hb hbox hg; have hnb18 := NB244_245.out; have hnc18 := NB245_244.out; obtain ⟨z19a, z19b, z19c, y19a, y19b, y19c⟩ := cs3_ BK244.out; obtain ⟨z20a, z20b, z20c, y20a, y20b, y20c⟩ := cs3_ BK245.out))
  go_ret
  exact ⟨tE_, dL2_ HB GE244 GE245⟩

end Go.Proofs.YtldbkigenaakkaaGreatDoor.Q
namespace Go.Proofs.YtldbkigenaakkaaGreatDoor.Q
open Go.RowKit Go.Proofs.YtldbkigenaakkaaGreatDoorPrs Go.Proofs.YtldbkigenaakkaaGreatDoorOwn Go.Proofs.YtldbkigenaakkaaGreatDoorW.PrintWords Go.Proofs.YtldbkigenaakkaaGreatDoorW.PrintLast Go.Proofs.YtldbkigenaakkaaGreatDoorW.PrintMore
attribute [local go_sem] max2_int min2_int max_two min_two max_three min_three max_four min_four   -- for this text's walks alone
set_option linter.unusedVariables false
set_option linter.unusedSimpArgs false

/-! ### land_check: function 28 -/
def land_check.f (k : Nat) (a0_0 : Int) (a0_1 : Int) (l0_2 : List Int) (a1 : Int) : Option (Int) := (land_Validate.f k a0_0 a0_1 l0_2).bind fun t248 => (if t248 = 0 then ((land_isTile.f a0_0 a0_1 l0_2 a1).bind fun t249 => (if t249 = true then (some 0) else (some 2))) else (some t248))
theorem land_check.mono : ∀ a0 a1 a2 a3 k, LeO (land_check.f k a0 a1 a2 a3) (land_check.f (k + 1) a0 a1 a2 a3) := by
  intro a0 a1 a2 a3 k
  unfold land_check.f
  repeat' first
      | (with_reducible first | apply land_Validate.mono | exact LeO.refl _ | exact LeO.none _ | refine LeO.ite ?_ ?_ | refine LeO.bind ?_ (fun _ => ?_))
set_option maxHeartbeats 8000000 in
set_option maxRecDepth 100000 in
theorem land_check.calls (k : Nat) (a0_0 : Int) (a0_1 : Int) (A0_2 : Option Addr) (c0_2 : Nat) (l0_2 : List Int) (a1 : Int) (r : Int) (w : World) (hr0_2 : Kd.C (Kd.int .i64) w A0_2 l0_2.length l0_2) (hc0_2 : l0_2.length ≤ c0_2) (h : land_check.f k a0_0 a0_1 l0_2 a1 = some r) :
    Calls Tryz.prog 28 #[.agg #[.int .i64 a0_0, .int .i64 a0_1, .slice A0_2 l0_2.length c0_2], .int .i64 a1] w fun e w' => e = .returned (.int .i64 r) ∧ Below w.heap.size w w' := by
 have hu26 := Tryz.underlying26; have HR0_2 := Aside0.mk hr0_2; have HC0_2 := Aside0.mk hc0_2; clear hr0_2 hc0_2; have HB := Aside0.mk (Below.refl w.heap.size w); have H : ((land_Validate.f k a0_0 a0_1 l0_2).bind fun t248 => (if t248 = 0 then ((land_isTile.f a0_0 a0_1 l0_2 a1).bind fun t249 => (if t249 = true then (some 0) else (some 2))) else (some t248))) = some r := h; clear h; replace H := Option.bind_eq_some_iff.mp H; obtain ⟨t248, A30, H⟩ := H; have A3 := Aside0.mk A30; clear A30
 by_cases c4 : t248 = 0
 ·rw [if_pos c4] at H; have c4b0 : (t248 == 0) = true := beq_iff_eq.mpr c4; have c4b1 : (t248 != 0) = false := bne_eq_false_iff_eq.mpr c4; clear c4; replace H := Option.bind_eq_some_iff.mp H; obtain ⟨t249, A50, H⟩ := H; have A5 := Aside0.mk A50; clear A50
  by_cases c6 : t249 = true
  ·subst c6; rw [if_pos rfl] at H; obtain rfl := Option.some.inj H
   go_enter Tryz.func28, Tryz.ntmps28
   go_wp2_with (first | ((with_reducible refine gate_dst (N := 2) rfl ?_); refine bx_ (N := 2) (cs := #[.int .i64 a0_0, .int .i64 a0_1, .slice A0_2 l0_2.length c0_2]) (t := 26) ?_; intro gb247 hg w7 hbox hb; have BK247 := Aside0.mk (hbox); have GW247 := Aside0.mk ((dS_ hg (dL_ HB) : w.heap.size ≤ gb247)); have GE247 := GW247; replace HB := Aside0.mk (below_step (dL_ HB) hb); clear hb hbox hg; obtain ⟨z8a, z8b, z8c, y8a, y8b, y8c⟩ := cs3_ BK247.out) | ((with_reducible refine gate_callee (f := 8) rfl ?_); refine gL_ (some 7) Tryz.func8 #[.agg #[.int .i64 a0_0, .int .i64 a0_1, .slice A0_2 l0_2.length c0_2]] ?_ rfl; (with_reducible refine (land_Validate.calls k a0_0 a0_1 _ _ l0_2 t248 _ ?side1 ?side2 A3.out).mono ?_); (case side1 => exact dC_ HR0_2 HB); (case side2 => exact HC0_2.out); rintro e w9 ⟨rfl, hb⟩; refine ⟨_, rfl, ?_⟩; replace BK247 := bk_ BK247 hb; replace HB := Aside0.mk (below_step (dL1_ HB GE247) hb); obtain ⟨z10a, z10b, z10c, y10a, y10b, y10c⟩ := cs3_ BK247.out) | ((with_reducible refine gate_callee (f := 24) rfl ?_); refine gL_ (some 13) Tryz.func24 #[.agg #[.int .i64 a0_0, .int .i64 a0_1, .slice A0_2 l0_2.length c0_2], .int .i64 a1] ?_ rfl; (with_reducible refine (land_isTile.calls a0_0 a0_1 _ _ l0_2 a1 true _ ?side1 ?side2 A5.out).mono ?_); (case side1 => exact dC_ HR0_2 HB); (case side2 => exact HC0_2.out); rintro e w11 ⟨rfl, hb⟩; refine ⟨_, rfl, ?_⟩; replace BK247 := bk_ BK247 hb; replace HB := Aside0.mk (below_step (dL1_ HB GE247) hb)))
   go_ret
   exact ⟨tE_, dL1_ HB GE247⟩
  ·replace c6 := Bool.eq_false_iff.mpr c6; subst c6; rw [if_neg (show ¬ (false = true) by decide)] at H; obtain rfl := Option.some.inj H
   go_enter Tryz.func28, Tryz.ntmps28
   go_wp2_with (first | ((with_reducible refine gate_dst (N := 2) rfl ?_); refine bx_ (N := 2) (cs := #[.int .i64 a0_0, .int .i64 a0_1, .slice A0_2 l0_2.length c0_2]) (t := 26) ?_; intro gb247 hg w12 hbox hb; have BK247 := Aside0.mk (hbox); have GW247 := Aside0.mk ((dS_ hg (dL_ HB) : w.heap.size ≤ gb247)); have GE247 := GW247; replace HB := Aside0.mk (below_step (dL_ HB) hb); clear hb hbox hg; obtain ⟨z13a, z13b, z13c, y13a, y13b, y13c⟩ := cs3_ BK247.out) | ((with_reducible refine gate_callee (f := 8) rfl ?_); refine gL_ (some 7) Tryz.func8 #[.agg #[.int .i64 a0_0, .int .i64 a0_1, .slice A0_2 l0_2.length c0_2]] ?_ rfl; (with_reducible refine (land_Validate.calls k a0_0 a0_1 _ _ l0_2 t248 _ ?side1 ?side2 A3.out).mono ?_); (case side1 => exact dC_ HR0_2 HB); (case side2 => exact HC0_2.out); rintro e w14 ⟨rfl, hb⟩; refine ⟨_, rfl, ?_⟩; replace BK247 := bk_ BK247 hb; replace HB := Aside0.mk (below_step (dL1_ HB GE247) hb); obtain ⟨z15a, z15b, z15c, y15a, y15b, y15c⟩ := cs3_ BK247.out) | ((with_reducible refine gate_callee (f := 24) rfl ?_); refine gL_ (some 13) Tryz.func24 #[.agg #[.int .i64 a0_0, .int .i64 a0_1, .slice A0_2 l0_2.length c0_2], .int .i64 a1] ?_ rfl; (with_reducible refine (land_isTile.calls a0_0 a0_1 _ _ l0_2 a1 false _ ?side1 ?side2 A5.out).mono ?_); (case side1 => exact dC_ HR0_2 HB); (case side2 => exact HC0_2.out); rintro e w16 ⟨rfl, hb⟩; refine ⟨_, rfl, ?_⟩; replace BK247 := bk_ BK247 hb; replace HB := Aside0.mk (below_step (dL1_ HB GE247) hb)))
   go_ret
   exact ⟨tE_, dL1_ HB GE247⟩
 ·rw [if_neg c4] at H; have c4b0 : (t248 == 0) = false := beq_eq_false_iff_ne.mpr c4; have c4b1 : (t248 != 0) = true := bne_iff_ne.mpr c4; obtain rfl := Option.some.inj H
  go_enter Tryz.func28, Tryz.ntmps28
  go_wp2_with (first | ((with_reducible refine gate_dst (N := 2) rfl ?_); refine bx_ (N := 2) (cs := #[.int .i64 a0_0, .int .i64 a0_1, .slice A0_2 l0_2.length c0_2]) (t := 26) ?_; intro gb247 hg w17 hbox hb; have BK247 := Aside0.mk (hbox); have GW247 := Aside0.mk ((dS_ hg (dL_ HB) : w.heap.size ≤ gb247)); have GE247 := GW247; replace HB := Aside0.mk (below_step (dL_ HB) hb); clear hb hbox hg; obtain ⟨z18a, z18b, z18c, y18a, y18b, y18c⟩ := cs3_ BK247.out) | ((with_reducible refine gate_callee (f := 8) rfl ?_); refine gL_ (some 7) Tryz.func8 #[.agg #[.int .i64 a0_0, .int .i64 a0_1, .slice A0_2 l0_2.length c0_2]] ?_ rfl; (with_reducible refine (land_Validate.calls k a0_0 a0_1 _ _ l0_2 t248 _ ?side1 ?side2 A3.out).mono ?_); (case side1 => exact dC_ HR0_2 HB); (case side2 => exact HC0_2.out); rintro e w19 ⟨rfl, hb⟩; refine ⟨_, rfl, ?_⟩; replace BK247 := bk_ BK247 hb; replace HB := Aside0.mk (below_step (dL1_ HB GE247) hb)))
  go_ret
  exact ⟨tE_, dL1_ HB GE247⟩

end Go.Proofs.YtldbkigenaakkaaGreatDoor.Q
namespace Go.Proofs.YtldbkigenaakkaaGreatDoor.Q
open Go.RowKit Go.Proofs.YtldbkigenaakkaaGreatDoorPrs Go.Proofs.YtldbkigenaakkaaGreatDoorOwn Go.Proofs.YtldbkigenaakkaaGreatDoorW.PrintWords Go.Proofs.YtldbkigenaakkaaGreatDoorW.PrintLast Go.Proofs.YtldbkigenaakkaaGreatDoorW.PrintMore
attribute [local go_sem] max2_int min2_int max_two min_two max_three min_three max_four min_four   -- for this text's walks alone
set_option linter.unusedVariables false
set_option linter.unusedSimpArgs false

/-! ### land_wet: function 29 -/
def land_wet.f (a0_0 : Int) (a0_1 : Int) (l0_2 : List Int) (a1 : Int) : Option (Bool) := (land_four.f a0_0 a0_1 l0_2 a1).bind fun bt251 => (some (decide ((mx (mx (mx bt251.1 bt251.2.1) bt251.2.2.1) bt251.2.2.2) ≤ 2)))
set_option maxHeartbeats 8000000 in
set_option maxRecDepth 100000 in
theorem land_wet.calls (a0_0 : Int) (a0_1 : Int) (A0_2 : Option Addr) (c0_2 : Nat) (l0_2 : List Int) (a1 : Int) (r : Bool) (w : World) (hr0_2 : Kd.C (Kd.int .i64) w A0_2 l0_2.length l0_2) (hc0_2 : l0_2.length ≤ c0_2) (h : land_wet.f a0_0 a0_1 l0_2 a1 = some r) :
    Calls Tryz.prog 29 #[.agg #[.int .i64 a0_0, .int .i64 a0_1, .slice A0_2 l0_2.length c0_2], .int .i64 a1] w fun e w' => e = .returned (.bool r) ∧ Below w.heap.size w w' := by
 have hu26 := Tryz.underlying26; have hu98 := Tryz.underlying98; have HR0_2 := Aside0.mk hr0_2; have HC0_2 := Aside0.mk hc0_2; clear hr0_2 hc0_2; have HB := Aside0.mk (Below.refl w.heap.size w); have H : ((land_four.f a0_0 a0_1 l0_2 a1).bind fun bt251 => (some (decide ((mx (mx (mx bt251.1 bt251.2.1) bt251.2.2.1) bt251.2.2.2) ≤ 2)))) = some r := h; clear h; replace H := Option.bind_eq_some_iff.mp H; obtain ⟨⟨t251, t252, t253, t254⟩, A30, H⟩ := H; have A3 := Aside0.mk A30; clear A30; obtain ⟨ji4, hji4⟩ : ∃ j_ : Int, (mx t251 t252) = j_ := ⟨_, rfl⟩; replace H : (some (decide ((mx (mx (ji4) t253) t254) ≤ 2))) = some r := by first | (rw [hji4] at H; exact H) | (simp only [hji4] at H ⊢; exact H)
 (try rw [hji4] at A3); have hji4_ : (if t251 < t252 then t252 else t251) = ji4 := hji4; obtain ⟨ji5, hji5⟩ : ∃ j_ : Int, (mx (ji4) t253) = j_ := ⟨_, rfl⟩; replace H : (some (decide ((mx (ji5) t254) ≤ 2))) = some r := by first | (rw [hji5] at H; exact H) | (simp only [hji5] at H ⊢; exact H)
 (try rw [hji5] at A3); have hji5_ : (if (ji4) < t253 then t253 else (ji4)) = ji5 := hji5; obtain ⟨ji6, hji6⟩ : ∃ j_ : Int, (mx (ji5) t254) = j_ := ⟨_, rfl⟩; replace H : (some (decide ((ji6) ≤ 2))) = some r := by first | (rw [hji6] at H; exact H) | (simp only [hji6] at H ⊢; exact H)
 (try rw [hji6] at A3); have hji6_ : (if (ji5) < t254 then t254 else (ji5)) = ji6 := hji6; obtain rfl := Option.some.inj H
 go_enter Tryz.func29, Tryz.ntmps29
 go_wp2_with (first | ((with_reducible refine gate_dst (N := 2) rfl ?_); refine bx_ (N := 2) (cs := #[.int .i64 a0_0, .int .i64 a0_1, .slice A0_2 l0_2.length c0_2]) (t := 26) ?_; intro gb250 hg w7 hbox hb; have BK250 := Aside0.mk (hbox); have GW250 := Aside0.mk ((dS_ hg (dL_ HB) : w.heap.size ≤ gb250)); have GE250 := GW250; replace HB := Aside0.mk (below_step (dL_ HB) hb); clear hb hbox hg; obtain ⟨z8a, z8b, z8c, y8a, y8b, y8c⟩ := cs3_ BK250.out) | ((with_reducible refine gate_callee (f := 25) rfl ?_); refine gL_ (some 8) Tryz.func25 #[.agg #[.int .i64 a0_0, .int .i64 a0_1, .slice A0_2 l0_2.length c0_2], .int .i64 a1] ?_ rfl; (with_reducible refine (land_four.calls a0_0 a0_1 _ _ l0_2 a1 t251 t252 t253 t254 _ ?side1 ?side2 A3.out).mono ?_); (case side1 => exact dC_ HR0_2 HB); (case side2 => exact HC0_2.out); rintro e w9 ⟨rfl, hb⟩; refine ⟨_, rfl, ?_⟩; replace BK250 := bk_ BK250 hb; replace HB := Aside0.mk (below_step (dL1_ HB GE250) hb)) | ((with_reducible refine gate_dst (N := 5) rfl ?_); refine bx_ (N := 5) (cs := #[.int .i64 0, .int .i64 0, .int .i64 0, .int .i64 0]) (t := 98) ?_; intro gb255 hg w10 hbox hb; have BK255 := Aside0.mk (hbox); have GW255 := Aside0.mk ((dS_ hg (dL1_ HB GE250) : w.heap.size ≤ gb255)); have GE255 := GW255; replace HB := Aside0.mk (below_step (dL1_ HB GE250) hb); have NB250_255 := nb_ hg BK250; have NB255_250 := nc_ hg BK250; replace BK250 := bk_ BK250 hb; clear hb hbox hg; have hnb11 := NB255_250.out; have hnc11 := NB250_255.out; obtain ⟨z12a, z12b, z12c, z12d, y12a, y12b, y12c, y12d⟩ := cs4_ BK255.out))
 go_ret
 exact ⟨by first | rfl | (simp [errW_none, errW_some] <;> rfl) | (simp only [← hji4, ← hji5, ← hji6]; first | rfl | (simp [errW_none, errW_some] <;> rfl)) | (simp [*, errW_none, errW_some] <;> rfl), dL2_ HB GE250 GE255⟩

end Go.Proofs.YtldbkigenaakkaaGreatDoor.Q
namespace Go.Proofs.YtldbkigenaakkaaGreatDoor.Q
open Go.RowKit Go.Proofs.YtldbkigenaakkaaGreatDoorPrs Go.Proofs.YtldbkigenaakkaaGreatDoorOwn Go.Proofs.YtldbkigenaakkaaGreatDoorW.PrintWords Go.Proofs.YtldbkigenaakkaaGreatDoorW.PrintLast Go.Proofs.YtldbkigenaakkaaGreatDoorW.PrintMore
attribute [local go_sem] max2_int min2_int max_two min_two max_three min_three max_four min_four   -- for this text's walks alone
set_option linter.unusedVariables false
set_option linter.unusedSimpArgs false

/-! ### land_step: function 30 -/
mutual
def land_step.j0 : Nat → Int → Int → Int → Int → List Int → Option (Int)
  | 0, _, _, _, _, _ => none
  | k + 1, x7, x8, x257000, x257001, x257002 => if x7 < 0 then (land_step.j1 k x7 x8 true x257000 x257001 x257002) else (if x7 ≥ x257000 then (land_step.j1 k x7 x8 true x257000 x257001 x257002) else (if x8 < 0 then (land_step.j1 k x7 x8 true x257000 x257001 x257002) else (land_step.j1 k x7 x8 (decide (x8 ≥ x257001)) x257000 x257001 x257002)))
def land_step.j1 : Nat → Int → Int → Bool → Int → Int → List Int → Option (Int)
  | 0, _, _, _, _, _, _ => none
  | k + 1, x7, x8, x49, x257000, x257001, x257002 => if x49 = true then (some (-1)) else (some (wrap64 ((wrap64 (x8 * x257000)) + x7)))
end
def land_step.f (k : Nat) (a0_0 : Int) (a0_1 : Int) (l0_2 : List Int) (a1 : Int) (a2 : Int) : Option (Int) := if a0_0 = 0 then (none) else (if a2 = 0 then (land_step.j0 k (wrap64 ((Int.tmod a1 a0_0) + 1)) (wrap64 (Int.tdiv a1 a0_0)) a0_0 a0_1 l0_2) else (if a2 = 1 then (land_step.j0 k (Int.tmod a1 a0_0) (wrap64 ((wrap64 (Int.tdiv a1 a0_0)) + 1)) a0_0 a0_1 l0_2) else (if a2 = 2 then (land_step.j0 k (wrap64 ((Int.tmod a1 a0_0) - 1)) (wrap64 (Int.tdiv a1 a0_0)) a0_0 a0_1 l0_2) else (land_step.j0 k (Int.tmod a1 a0_0) (wrap64 ((wrap64 (Int.tdiv a1 a0_0)) - 1)) a0_0 a0_1 l0_2))))
theorem land_step.mono_l : ∀ k, (∀ y0 y1 y2 y3 y4, LeO (land_step.j0 k y0 y1 y2 y3 y4) (land_step.j0 (k + 1) y0 y1 y2 y3 y4)) ∧ (∀ y0 y1 y2 y3 y4 y5, LeO (land_step.j1 k y0 y1 y2 y3 y4 y5) (land_step.j1 (k + 1) y0 y1 y2 y3 y4 y5))
  | 0 => ⟨fun _ _ _ _ _ r h => by simp [land_step.j0] at h, fun _ _ _ _ _ _ r h => by simp [land_step.j1] at h⟩
  | k + 1 => by
    obtain ⟨ih0, ih1⟩ := land_step.mono_l k; refine ⟨?_, ?_⟩
    · intro y0 y1 y2 y3 y4
      unfold land_step.j0
      repeat' first
      | (with_reducible first | apply ih0 | apply ih1 | exact LeO.refl _ | exact LeO.none _ | refine LeO.ite ?_ ?_ | refine LeO.bind ?_ (fun _ => ?_))
    · intro y0 y1 y2 y3 y4 y5
      unfold land_step.j1
      repeat' first
      | (with_reducible first | apply ih0 | apply ih1 | exact LeO.refl _ | exact LeO.none _ | refine LeO.ite ?_ ?_ | refine LeO.bind ?_ (fun _ => ?_))
theorem land_step.mono : ∀ a0 a1 a2 a3 a4 k, LeO (land_step.f k a0 a1 a2 a3 a4) (land_step.f (k + 1) a0 a1 a2 a3 a4) := by
  intro a0 a1 a2 a3 a4 k; obtain ⟨ih0, ih1⟩ := land_step.mono_l k
  unfold land_step.f
  repeat' first
      | (with_reducible first | apply ih0 | apply ih1 | exact LeO.refl _ | exact LeO.none _ | refine LeO.ite ?_ ?_ | refine LeO.bind ?_ (fun _ => ?_))
set_option maxHeartbeats 8000000 in
set_option maxRecDepth 100000 in
theorem land_step.calls (k : Nat) (a0_0 : Int) (a0_1 : Int) (A0_2 : Option Addr) (c0_2 : Nat) (l0_2 : List Int) (a1 : Int) (a2 : Int) (r : Int) (w : World) (hr0_2 : Kd.C (Kd.int .i64) w A0_2 l0_2.length l0_2) (hc0_2 : l0_2.length ≤ c0_2) (h : land_step.f k a0_0 a0_1 l0_2 a1 a2 = some r) :
    Calls Tryz.prog 30 #[.agg #[.int .i64 a0_0, .int .i64 a0_1, .slice A0_2 l0_2.length c0_2], .int .i64 a1, .int .i64 a2] w fun e w' => e = .returned (.int .i64 r) ∧ Below w.heap.size w w' := by
 have hu26 := Tryz.underlying26; have HR0_2 := Aside0.mk hr0_2; have HC0_2 := Aside0.mk hc0_2; clear hr0_2 hc0_2; have HB := Aside0.mk (Below.refl w.heap.size w); have H : (if a0_0 = 0 then (none) else (if a2 = 0 then (land_step.j0 k (wrap64 ((Int.tmod a1 a0_0) + 1)) (wrap64 (Int.tdiv a1 a0_0)) a0_0 a0_1 l0_2) else (if a2 = 1 then (land_step.j0 k (Int.tmod a1 a0_0) (wrap64 ((wrap64 (Int.tdiv a1 a0_0)) + 1)) a0_0 a0_1 l0_2) else (if a2 = 2 then (land_step.j0 k (wrap64 ((Int.tmod a1 a0_0) - 1)) (wrap64 (Int.tdiv a1 a0_0)) a0_0 a0_1 l0_2) else (land_step.j0 k (Int.tmod a1 a0_0) (wrap64 ((wrap64 (Int.tdiv a1 a0_0)) - 1)) a0_0 a0_1 l0_2))))) = some r := h; clear h
 by_cases c4 : a0_0 = 0
 ·rw [if_pos c4] at H; exact absurd H (by simp)
 ·rw [if_neg c4] at H; have c4b0 : (a0_0 == 0) = false := beq_eq_false_iff_ne.mpr c4; have c4b1 : (a0_0 != 0) = true := bne_iff_ne.mpr c4; have HC5 := Aside0.mk H; clear H
  go_enter Tryz.func30, Tryz.ntmps30
  go_upto_block 0 with (first | ((with_reducible refine gate_dst (N := 3) rfl ?_); refine bx_ (N := 3) (cs := #[.int .i64 a0_0, .int .i64 a0_1, .slice A0_2 l0_2.length c0_2]) (t := 26) ?_; intro gb256 hg w6 hbox hb; have BK256 := Aside0.mk (hbox); have GW256 := Aside0.mk ((dS_ hg (dL_ HB) : w.heap.size ≤ gb256)); have GE256 := GW256; replace HB := Aside0.mk (below_step (dL_ HB) hb); clear hb hbox hg; obtain ⟨z7a, z7b, z7c, y7a, y7b, y7c⟩ := cs3_ BK256.out))
  repeat (go_quiet (first | ((with_reducible refine gate_dst (N := 3) rfl ?_); refine bx_ (N := 3) (cs := #[.int .i64 a0_0, .int .i64 a0_1, .slice A0_2 l0_2.length c0_2]) (t := 26) ?_; intro gb256 hg w6 hbox hb; have BK256 := Aside0.mk (hbox); have GW256 := Aside0.mk ((dS_ hg (dL_ HB) : w.heap.size ≤ gb256)); have GE256 := GW256; replace HB := Aside0.mk (below_step (dL_ HB) hb); clear hb hbox hg; obtain ⟨z7a, z7b, z7c, y7a, y7b, y7c⟩ := cs3_ BK256.out)); go_upto_block 0 with (first | ((with_reducible refine gate_dst (N := 3) rfl ?_); refine bx_ (N := 3) (cs := #[.int .i64 a0_0, .int .i64 a0_1, .slice A0_2 l0_2.length c0_2]) (t := 26) ?_; intro gb256 hg w6 hbox hb; have BK256 := Aside0.mk (hbox); have GW256 := Aside0.mk ((dS_ hg (dL_ HB) : w.heap.size ≤ gb256)); have GE256 := GW256; replace HB := Aside0.mk (below_step (dL_ HB) hb); clear hb hbox hg; obtain ⟨z7a, z7b, z7c, y7a, y7b, y7c⟩ := cs3_ BK256.out)))
  (try simp only [Act.put, List.setIfInBounds_toArray, List.set_cons_zero, List.set_cons_succ])
  go_cut [7, 8] (fun v7 v8 wc => ∃ (kq : Nat) (x7_4 : Int) (x8_4 : Int), v7 = .int .i64 x7_4 ∧ v8 = .int .i64 x8_4 ∧ Aside0 (land_step.j0 kq x7_4 x8_4 a0_0 a0_1 l0_2 = some r) ∧ Aside0 (kq ≤ k) ∧ Aside0 (wc.heap[gb256]? = some (.cells #[.int .i64 a0_0, .int .i64 a0_1, (.slice A0_2 l0_2.length c0_2)] 26 (0, 0))) ∧ Aside0 (Below w.heap.size w wc))
  case first =>
   have H := HC5.out; clear HC5
   by_cases c8 : a2 = 0
   ·rw [if_pos c8] at H; have c8b0 : (a2 == 0) = true := beq_iff_eq.mpr c8; have c8b1 : (a2 != 0) = false := bne_eq_false_iff_eq.mpr c8; clear c8
    (first | rw [c8b0] | (simp only [i64_w, i32_w]; rw [c8b0]) | skip)
    have H' := Aside0.mk H; clear H; go_wp2
    repeat (go_quiet (fail); try go_wp2)
    go_meet
    case rel => exact ⟨_, (wrap64 ((Int.tmod a1 a0_0) + 1)), (wrap64 (Int.tdiv a1 a0_0)), tS_, tS_, H', ⟨by first | omega | exact Nat.le_refl _⟩, ⟨dB_ BK256⟩, ⟨dL1_ HB GE256⟩⟩
   ·rw [if_neg c8] at H; have c8b0 : (a2 == 0) = false := beq_eq_false_iff_ne.mpr c8; have c8b1 : (a2 != 0) = true := bne_iff_ne.mpr c8
    (first | rw [c8b0] | (simp only [i64_w, i32_w]; rw [c8b0]) | skip)
    by_cases c9 : a2 = 1
    ·rw [if_pos c9] at H; have c9b0 : (a2 == 1) = true := beq_iff_eq.mpr c9; have c9b1 : (a2 != 1) = false := bne_eq_false_iff_eq.mpr c9; clear c9; have H' := Aside0.mk H; clear H; go_wp2
     repeat (go_quiet (fail); try go_wp2)
     go_meet
     case rel => exact ⟨_, (Int.tmod a1 a0_0), (wrap64 ((wrap64 (Int.tdiv a1 a0_0)) + 1)), tS_, tS_, H', ⟨by first | omega | exact Nat.le_refl _⟩, ⟨dB_ BK256⟩, ⟨dL1_ HB GE256⟩⟩
    ·rw [if_neg c9] at H; have c9b0 : (a2 == 1) = false := beq_eq_false_iff_ne.mpr c9; have c9b1 : (a2 != 1) = true := bne_iff_ne.mpr c9
     by_cases c10 : a2 = 2
     ·rw [if_pos c10] at H; have c10b0 : (a2 == 2) = true := beq_iff_eq.mpr c10; have c10b1 : (a2 != 2) = false := bne_eq_false_iff_eq.mpr c10; clear c10; have H' := Aside0.mk H; clear H; go_wp2
      repeat (go_quiet (fail); try go_wp2)
      go_meet
      case rel => exact ⟨_, (wrap64 ((Int.tmod a1 a0_0) - 1)), (wrap64 (Int.tdiv a1 a0_0)), tS_, tS_, H', ⟨by first | omega | exact Nat.le_refl _⟩, ⟨dB_ BK256⟩, ⟨dL1_ HB GE256⟩⟩
     ·rw [if_neg c10] at H; have c10b0 : (a2 == 2) = false := beq_eq_false_iff_ne.mpr c10; have c10b1 : (a2 != 2) = true := bne_iff_ne.mpr c10; have H' := Aside0.mk H; clear H; go_wp2
      repeat (go_quiet (fail); try go_wp2)
      go_meet
      case rel => exact ⟨_, (Int.tmod a1 a0_0), (wrap64 ((wrap64 (Int.tdiv a1 a0_0)) - 1)), tS_, tS_, H', ⟨by first | omega | exact Nat.le_refl _⟩, ⟨dB_ BK256⟩, ⟨dL1_ HB GE256⟩⟩
  case rest =>
   clear HC5; (try clear c4); (try clear c4b0); (try clear c4b1); (try clear c8); (try clear c9); (try clear c10); (try clear z7a z7b z7c y7a y7b y7c); obtain ⟨kq, x7_4, x8_4, rfl, rfl, HA, HJ4, BK256, HB⟩ := hcut
   cases kq with
   | zero => exact absurd HA.out (by simp [land_step.j0])
   | succ kj4 =>
    have H := HA.out; clear HA; simp only [land_step.j0] at H; have HC11 := Aside0.mk H; clear H
    go_upto_region 10 with (fail)
    repeat (go_quiet (fail); go_upto_region 10 with (fail))
    go_cut [49] (fun v49 wc => ∃ (kq : Nat) (x49_10 : Bool), v49 = .bool x49_10 ∧ Aside0 (land_step.j1 kq x7_4 x8_4 x49_10 a0_0 a0_1 l0_2 = some r) ∧ Aside0 (kq ≤ kj4) ∧ Aside0 (wc.heap[gb256]? = some (.cells #[.int .i64 a0_0, .int .i64 a0_1, (.slice A0_2 l0_2.length c0_2)] 26 (0, 0))) ∧ Aside0 (Below w.heap.size w wc))
    case first =>
     have H := HC11.out; clear HC11
     by_cases c12 : x7_4 < 0
     ·rw [if_pos c12] at H; have c12b0 : decide (x7_4 < 0) = true := decide_eq_true c12; clear c12
      (first | rw [c12b0] | (simp only [i64_w, i32_w]; rw [c12b0]) | skip)
      have H' := Aside0.mk H; clear H; go_wp2
      repeat (go_quiet (fail); try go_wp2)
      go_meet
      case rel => exact ⟨_, (true), tS_, H', ⟨by have := HJ4.out; first | omega | exact Nat.le_refl _⟩, ⟨dB_ BK256⟩, ⟨dL1_ HB GE256⟩⟩
     ·rw [if_neg c12] at H; have c12b0 : decide (x7_4 < 0) = false := decide_eq_false c12; clear c12
      (first | rw [c12b0] | (simp only [i64_w, i32_w]; rw [c12b0]) | skip)
      by_cases c13 : x7_4 ≥ a0_0
      ·rw [if_pos c13] at H; have c13b0 : decide (a0_0 ≤ x7_4) = true := decide_eq_true c13; clear c13; have H' := Aside0.mk H; clear H; obtain ⟨z14a, z14b, z14c, y14a, y14b, y14c⟩ := cs3_ BK256.out; go_wp2
       repeat (go_quiet (fail); try go_wp2)
       go_meet
       case rel => exact ⟨_, (true), tS_, H', ⟨by have := HJ4.out; first | omega | exact Nat.le_refl _⟩, ⟨dB_ BK256⟩, ⟨dL1_ HB GE256⟩⟩
      ·rw [if_neg c13] at H; have c13b0 : decide (a0_0 ≤ x7_4) = false := decide_eq_false c13; clear c13
       by_cases c15 : x8_4 < 0
       ·rw [if_pos c15] at H; have c15b0 : decide (x8_4 < 0) = true := decide_eq_true c15; clear c15; have H' := Aside0.mk H; clear H; obtain ⟨z16a, z16b, z16c, y16a, y16b, y16c⟩ := cs3_ BK256.out; go_wp2
        repeat (go_quiet (fail); try go_wp2)
        go_meet
        case rel => exact ⟨_, (true), tS_, H', ⟨by have := HJ4.out; first | omega | exact Nat.le_refl _⟩, ⟨dB_ BK256⟩, ⟨dL1_ HB GE256⟩⟩
       ·rw [if_neg c15] at H; have c15b0 : decide (x8_4 < 0) = false := decide_eq_false c15; clear c15; have H' := Aside0.mk H; clear H; obtain ⟨z17a, z17b, z17c, y17a, y17b, y17c⟩ := cs3_ BK256.out; go_wp2
        repeat (go_quiet (fail); try go_wp2)
        go_meet
        case rel => exact ⟨_, (decide (x8_4 ≥ a0_1)), tS_, H', ⟨by have := HJ4.out; first | omega | exact Nat.le_refl _⟩, ⟨dB_ BK256⟩, ⟨dL1_ HB GE256⟩⟩
    case rest =>
     clear HC11; (try clear c4); (try clear c4b0); (try clear c4b1); (try clear c8); (try clear c9); (try clear c10); (try clear c12); (try clear c13); (try clear c15); (try clear z7a z7b z7c y7a y7b y7c); obtain ⟨kq, x49_10, rfl, HA, HJ10, BK256, HB⟩ := hcut
     cases kq with
     | zero => exact absurd HA.out (by simp [land_step.j1])
     | succ kj10 =>
      have H := HA.out; clear HA; simp only [land_step.j1] at H
      by_cases c18 : x49_10 = true
      ·subst c18; rw [if_pos rfl] at H; obtain rfl := Option.some.inj H; go_wp2
       repeat (go_quiet (fail); try go_wp2)
       go_ret
       exact ⟨tE_, dL1_ HB GE256⟩
      ·replace c18 := Bool.eq_false_iff.mpr c18; subst c18; rw [if_neg (show ¬ (false = true) by decide)] at H; obtain rfl := Option.some.inj H; obtain ⟨z19a, z19b, z19c, y19a, y19b, y19c⟩ := cs3_ BK256.out; go_wp2
       repeat (go_quiet (fail); try go_wp2)
       go_ret
       exact ⟨tE_, dL1_ HB GE256⟩

end Go.Proofs.YtldbkigenaakkaaGreatDoor.Q
namespace Go.Proofs.YtldbkigenaakkaaGreatDoor.Q
open Go.RowKit Go.Proofs.YtldbkigenaakkaaGreatDoorPrs Go.Proofs.YtldbkigenaakkaaGreatDoorOwn Go.Proofs.YtldbkigenaakkaaGreatDoorW.PrintWords Go.Proofs.YtldbkigenaakkaaGreatDoorW.PrintLast Go.Proofs.YtldbkigenaakkaaGreatDoorW.PrintMore
attribute [local go_sem] max2_int min2_int max_two min_two max_three min_three max_four min_four   -- for this text's walks alone
set_option linter.unusedVariables false
set_option linter.unusedSimpArgs false

/-! ### land_sum: function 31 -/
def land_sum.f (a0_0 : Int) (a0_1 : Int) (l0_2 : List Int) (a1 : Int) : Option (Int) := (land_four.f a0_0 a0_1 l0_2 a1).bind fun bt258 => (some (wrap64 ((wrap64 ((wrap64 (bt258.1 + bt258.2.1)) + bt258.2.2.1)) + bt258.2.2.2)))
set_option maxHeartbeats 8000000 in
set_option maxRecDepth 100000 in
theorem land_sum.calls (a0_0 : Int) (a0_1 : Int) (A0_2 : Option Addr) (c0_2 : Nat) (l0_2 : List Int) (a1 : Int) (r : Int) (w : World) (hr0_2 : Kd.C (Kd.int .i64) w A0_2 l0_2.length l0_2) (hc0_2 : l0_2.length ≤ c0_2) (h : land_sum.f a0_0 a0_1 l0_2 a1 = some r) :
    Calls Tryz.prog 31 #[.agg #[.int .i64 a0_0, .int .i64 a0_1, .slice A0_2 l0_2.length c0_2], .int .i64 a1] w fun e w' => e = .returned (.int .i64 r) ∧ Below w.heap.size w w' := by
 have hu26 := Tryz.underlying26; have hu98 := Tryz.underlying98; have HR0_2 := Aside0.mk hr0_2; have HC0_2 := Aside0.mk hc0_2; clear hr0_2 hc0_2; have HB := Aside0.mk (Below.refl w.heap.size w); have H : ((land_four.f a0_0 a0_1 l0_2 a1).bind fun bt258 => (some (wrap64 ((wrap64 ((wrap64 (bt258.1 + bt258.2.1)) + bt258.2.2.1)) + bt258.2.2.2)))) = some r := h; clear h; replace H := Option.bind_eq_some_iff.mp H; obtain ⟨⟨t258, t259, t260, t261⟩, A30, H⟩ := H; have A3 := Aside0.mk A30; clear A30; obtain rfl := Option.some.inj H
 go_enter Tryz.func31, Tryz.ntmps31
 go_wp2_with (first | ((with_reducible refine gate_dst (N := 2) rfl ?_); refine bx_ (N := 2) (cs := #[.int .i64 a0_0, .int .i64 a0_1, .slice A0_2 l0_2.length c0_2]) (t := 26) ?_; intro gb257 hg w4 hbox hb; have BK257 := Aside0.mk (hbox); have GW257 := Aside0.mk ((dS_ hg (dL_ HB) : w.heap.size ≤ gb257)); have GE257 := GW257; replace HB := Aside0.mk (below_step (dL_ HB) hb); clear hb hbox hg; obtain ⟨z5a, z5b, z5c, y5a, y5b, y5c⟩ := cs3_ BK257.out) | ((with_reducible refine gate_callee (f := 25) rfl ?_); refine gL_ (some 8) Tryz.func25 #[.agg #[.int .i64 a0_0, .int .i64 a0_1, .slice A0_2 l0_2.length c0_2], .int .i64 a1] ?_ rfl; (with_reducible refine (land_four.calls a0_0 a0_1 _ _ l0_2 a1 t258 t259 t260 t261 _ ?side1 ?side2 A3.out).mono ?_); (case side1 => exact dC_ HR0_2 HB); (case side2 => exact HC0_2.out); rintro e w6 ⟨rfl, hb⟩; refine ⟨_, rfl, ?_⟩; replace BK257 := bk_ BK257 hb; replace HB := Aside0.mk (below_step (dL1_ HB GE257) hb)) | ((with_reducible refine gate_dst (N := 5) rfl ?_); refine bx_ (N := 5) (cs := #[.int .i64 0, .int .i64 0, .int .i64 0, .int .i64 0]) (t := 98) ?_; intro gb262 hg w7 hbox hb; have BK262 := Aside0.mk (hbox); have GW262 := Aside0.mk ((dS_ hg (dL1_ HB GE257) : w.heap.size ≤ gb262)); have GE262 := GW262; replace HB := Aside0.mk (below_step (dL1_ HB GE257) hb); have NB257_262 := nb_ hg BK257; have NB262_257 := nc_ hg BK257; replace BK257 := bk_ BK257 hb; clear hb hbox hg; have hnb8 := NB262_257.out; have hnc8 := NB257_262.out; obtain ⟨z9a, z9b, z9c, z9d, y9a, y9b, y9c, y9d⟩ := cs4_ BK262.out))
 go_ret
 exact ⟨tE_, dL2_ HB GE257 GE262⟩

end Go.Proofs.YtldbkigenaakkaaGreatDoor.Q
