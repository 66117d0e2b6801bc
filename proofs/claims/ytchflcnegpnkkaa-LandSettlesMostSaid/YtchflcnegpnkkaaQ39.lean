-- PRINTED by print.py (a twelfth state) out of the translation. Not trusted: Lean checks it.
import Derived.Test.YtchflcnegpnkkaaPrs
import Derived.Test.YtchflcnegpnkkaaQ0
import Derived.Test.YtchflcnegpnkkaaQ37
import Derived.Test.YtchflcnegpnkkaaQ38
namespace Go.Proofs.Ytchflcnegpnkkaa.Q
open Go.RowKit Go.Proofs.YtchflcnegpnkkaaPrs Go.Proofs.YtchflcnegpnkkaaOwn Go.Proofs.YtchflcnegpnkkaaW.PrintWords Go.Proofs.YtchflcnegpnkkaaW.PrintLast Go.Proofs.YtchflcnegpnkkaaW.PrintMore
attribute [local go_sem] max2_int min2_int max_two min_two max_three min_three max_four min_four   -- for this text's walks alone
set_option linter.unusedVariables false
set_option linter.unusedSimpArgs false

/-! ### land_Settle: function 31 -/
mutual
def land_Settle.j0 : Nat → Int → Int → List Int → Bool → Option (Int × Int × List Int × Int)
  | 0, _, _, _, _ => none
  | k + 1, x0, x1, x2, x30 => if x30 = true then (some (0, 0, ([] : List Int), 1)) else (if 0 ≤ (x2.length : Int) then (if ((x2.length : Int) : Int).toNat ≤ 35184372088832 then (land_Settle.l0 k x0 x1 x2 (x2.length : Int) 0 x0 x1 (List.replicate ((x2.length : Int) : Int).toNat 0)) else (none)) else (none))
def land_Settle.l0 : Nat → Int → Int → List Int → Int → Int → Int → Int → List Int → Option (Int × Int × List Int × Int)
  | 0, _, _, _, _, _, _, _, _ => none
  | k + 1, x0, x1, x38, x39, x40, x477000, x477001, x477002 => if x40 < x39 then (if 0 ≤ x40 then (if x40 < (x38.length : Int) then (if x40 < (x477002.length : Int) then (land_Settle.l0 k x0 x1 x38 x39 (wrap64 (x40 + 1)) x477000 x477001 (x477002.set (x40 : Int).toNat (mn (mx (rd x38 x40) 0) 15))) else (none)) else (none)) else (none)) else (land_Settle.l1 k x1 (wrap64 (x0 + 1)) x477000 x477001 x477002)
def land_Settle.l1 : Nat → Int → Int → Int → Int → List Int → Option (Int × Int × List Int × Int)
  | 0, _, _, _, _, _ => none
  | k + 1, x1, x11, x477000, x477001, x477002 => land_Settle.l2 k x1 x11 x477002 (x477002.length : Int) 0 x477000 x477001 x477002
def land_Settle.l2 : Nat → Int → Int → List Int → Int → Int → Int → Int → List Int → Option (Int × Int × List Int × Int)
  | 0, _, _, _, _, _, _, _, _ => none
  | k + 1, x1, x11, x56, x57, x58, x477000, x477001, x477002 => if x58 < x57 then (if 0 ≤ x58 then (if x58 < (x56.length : Int) then ((land_beside.f k x58 x11 (wrap64 (x1 + 1))).bind fun t480 => (land_Settle.l3 k x1 x11 x58 (rd x56 x58) (rd x56 x58) x56 x57 x58 t480 (t480.length : Int) 0 x477000 x477001 x477002)) else (none)) else (none)) else (some (x477000, x477001, x477002, 0))
def land_Settle.l3 : Nat → Int → Int → Int → Int → Int → List Int → Int → Int → List Int → Int → Int → Int → Int → List Int → Option (Int × Int × List Int × Int)
  | 0, _, _, _, _, _, _, _, _, _, _, _, _, _, _ => none
  | k + 1, x1, x11, x12, x13, x14, x56, x57, x58, x68, x69, x70, x477000, x477001, x477002 => if x70 < x69 then (if 0 ≤ x70 then (if x70 < (x68.length : Int) then (if 0 ≤ (rd x68 x70) then (if (rd x68 x70) < (x477002.length : Int) then (land_Settle.l3 k x1 x11 x12 x13 (mn x14 (wrap64 ((rd x477002 (rd x68 x70)) + 1))) x56 x57 x58 x68 x69 (wrap64 (x70 + 1)) x477000 x477001 x477002) else (none)) else (none)) else (none)) else (none)) else (if x14 < x13 then (if 0 ≤ x12 then (if x12 < (x477002.length : Int) then (land_Settle.l1 k x1 x11 x477000 x477001 (x477002.set (x12 : Int).toNat x14)) else (none)) else (none)) else (land_Settle.l2 k x1 x11 x56 x57 (wrap64 (x58 + 1)) x477000 x477001 x477002))
end
def land_Settle.f (k : Nat) (a0 : Int) (a1 : Int) (l2 : List Int) : Option (Int × Int × List Int × Int) := (land_sides.f a0 a1).bind fun t472 => (if t472 = true then (land_Settle.j0 k a0 a1 l2 ((l2.length : Int) != (wrap64 ((wrap64 (a0 + 1)) * (wrap64 (a1 + 1)))))) else (land_Settle.j0 k a0 a1 l2 true))
theorem land_Settle.mono_l : ∀ k, (∀ y0 y1 y2 y3, LeO (land_Settle.j0 k y0 y1 y2 y3) (land_Settle.j0 (k + 1) y0 y1 y2 y3)) ∧ (∀ y0 y1 y2 y3 y4 y5 y6 y7, LeO (land_Settle.l0 k y0 y1 y2 y3 y4 y5 y6 y7) (land_Settle.l0 (k + 1) y0 y1 y2 y3 y4 y5 y6 y7)) ∧ (∀ y0 y1 y2 y3 y4, LeO (land_Settle.l1 k y0 y1 y2 y3 y4) (land_Settle.l1 (k + 1) y0 y1 y2 y3 y4)) ∧ (∀ y0 y1 y2 y3 y4 y5 y6 y7, LeO (land_Settle.l2 k y0 y1 y2 y3 y4 y5 y6 y7) (land_Settle.l2 (k + 1) y0 y1 y2 y3 y4 y5 y6 y7)) ∧ (∀ y0 y1 y2 y3 y4 y5 y6 y7 y8 y9 y10 y11 y12 y13, LeO (land_Settle.l3 k y0 y1 y2 y3 y4 y5 y6 y7 y8 y9 y10 y11 y12 y13) (land_Settle.l3 (k + 1) y0 y1 y2 y3 y4 y5 y6 y7 y8 y9 y10 y11 y12 y13))
  | 0 => ⟨fun _ _ _ _ r h => by simp [land_Settle.j0] at h, fun _ _ _ _ _ _ _ _ r h => by simp [land_Settle.l0] at h, fun _ _ _ _ _ r h => by simp [land_Settle.l1] at h, fun _ _ _ _ _ _ _ _ r h => by simp [land_Settle.l2] at h, fun _ _ _ _ _ _ _ _ _ _ _ _ _ _ r h => by simp [land_Settle.l3] at h⟩
  | k + 1 => by
    obtain ⟨ih0, ih1, ih2, ih3, ih4⟩ := land_Settle.mono_l k
    refine ⟨?_, ?_, ?_, ?_, ?_⟩
    · intro y0 y1 y2 y3
      unfold land_Settle.j0
      repeat' first
      | (with_reducible first | exact ih0 _ _ _ _ | exact ih1 _ _ _ _ _ _ _ _ | exact ih2 _ _ _ _ _ | exact ih3 _ _ _ _ _ _ _ _ | exact ih4 _ _ _ _ _ _ _ _ _ _ _ _ _ _ | exact land_beside.mono _ _ _ _ | exact LeO.refl _ | exact LeO.none _ | refine LeO.ite ?_ ?_ | refine LeO.bind ?_ (fun _ => ?_))
      | exact ih0 _ _ _ _
      | exact ih1 _ _ _ _ _ _ _ _
      | exact ih2 _ _ _ _ _
      | exact ih3 _ _ _ _ _ _ _ _
      | exact ih4 _ _ _ _ _ _ _ _ _ _ _ _ _ _
      | exact land_beside.mono _ _ _ _
      | exact LeO.none _
      | refine LeO.ite ?_ ?_
      | refine LeO.bind ?_ (fun _ => ?_)
    · intro y0 y1 y2 y3 y4 y5 y6 y7
      unfold land_Settle.l0
      repeat' first
      | (with_reducible first | exact ih0 _ _ _ _ | exact ih1 _ _ _ _ _ _ _ _ | exact ih2 _ _ _ _ _ | exact ih3 _ _ _ _ _ _ _ _ | exact ih4 _ _ _ _ _ _ _ _ _ _ _ _ _ _ | exact land_beside.mono _ _ _ _ | exact LeO.refl _ | exact LeO.none _ | refine LeO.ite ?_ ?_ | refine LeO.bind ?_ (fun _ => ?_))
      | exact ih0 _ _ _ _
      | exact ih1 _ _ _ _ _ _ _ _
      | exact ih2 _ _ _ _ _
      | exact ih3 _ _ _ _ _ _ _ _
      | exact ih4 _ _ _ _ _ _ _ _ _ _ _ _ _ _
      | exact land_beside.mono _ _ _ _
      | exact LeO.none _
      | refine LeO.ite ?_ ?_
      | refine LeO.bind ?_ (fun _ => ?_)
    · intro y0 y1 y2 y3 y4
      unfold land_Settle.l1
      repeat' first
      | (with_reducible first | exact ih0 _ _ _ _ | exact ih1 _ _ _ _ _ _ _ _ | exact ih2 _ _ _ _ _ | exact ih3 _ _ _ _ _ _ _ _ | exact ih4 _ _ _ _ _ _ _ _ _ _ _ _ _ _ | exact land_beside.mono _ _ _ _ | exact LeO.refl _ | exact LeO.none _ | refine LeO.ite ?_ ?_ | refine LeO.bind ?_ (fun _ => ?_))
      | exact ih0 _ _ _ _
      | exact ih1 _ _ _ _ _ _ _ _
      | exact ih2 _ _ _ _ _
      | exact ih3 _ _ _ _ _ _ _ _
      | exact ih4 _ _ _ _ _ _ _ _ _ _ _ _ _ _
      | exact land_beside.mono _ _ _ _
      | exact LeO.none _
      | refine LeO.ite ?_ ?_
      | refine LeO.bind ?_ (fun _ => ?_)
    · intro y0 y1 y2 y3 y4 y5 y6 y7
      unfold land_Settle.l2
      repeat' first
      | (with_reducible first | exact ih0 _ _ _ _ | exact ih1 _ _ _ _ _ _ _ _ | exact ih2 _ _ _ _ _ | exact ih3 _ _ _ _ _ _ _ _ | exact ih4 _ _ _ _ _ _ _ _ _ _ _ _ _ _ | exact land_beside.mono _ _ _ _ | exact LeO.refl _ | exact LeO.none _ | refine LeO.ite ?_ ?_ | refine LeO.bind ?_ (fun _ => ?_))
      | exact ih0 _ _ _ _
      | exact ih1 _ _ _ _ _ _ _ _
      | exact ih2 _ _ _ _ _
      | exact ih3 _ _ _ _ _ _ _ _
      | exact ih4 _ _ _ _ _ _ _ _ _ _ _ _ _ _
      | exact land_beside.mono _ _ _ _
      | exact LeO.none _
      | refine LeO.ite ?_ ?_
      | refine LeO.bind ?_ (fun _ => ?_)
    · intro y0 y1 y2 y3 y4 y5 y6 y7 y8 y9 y10 y11 y12 y13
      unfold land_Settle.l3
      repeat' first
      | (with_reducible first | exact ih0 _ _ _ _ | exact ih1 _ _ _ _ _ _ _ _ | exact ih2 _ _ _ _ _ | exact ih3 _ _ _ _ _ _ _ _ | exact ih4 _ _ _ _ _ _ _ _ _ _ _ _ _ _ | exact land_beside.mono _ _ _ _ | exact LeO.refl _ | exact LeO.none _ | refine LeO.ite ?_ ?_ | refine LeO.bind ?_ (fun _ => ?_))
      | exact ih0 _ _ _ _
      | exact ih1 _ _ _ _ _ _ _ _
      | exact ih2 _ _ _ _ _
      | exact ih3 _ _ _ _ _ _ _ _
      | exact ih4 _ _ _ _ _ _ _ _ _ _ _ _ _ _
      | exact land_beside.mono _ _ _ _
      | exact LeO.none _
      | refine LeO.ite ?_ ?_
      | refine LeO.bind ?_ (fun _ => ?_)
theorem land_Settle.mono : ∀ a0 a1 a2 k, LeO (land_Settle.f k a0 a1 a2) (land_Settle.f (k + 1) a0 a1 a2) := by
  intro a0 a1 a2 k
  obtain ⟨ih0, ih1, ih2, ih3, ih4⟩ := land_Settle.mono_l k
  unfold land_Settle.f
  repeat' first
      | (with_reducible first | exact ih0 _ _ _ _ | exact ih1 _ _ _ _ _ _ _ _ | exact ih2 _ _ _ _ _ | exact ih3 _ _ _ _ _ _ _ _ | exact ih4 _ _ _ _ _ _ _ _ _ _ _ _ _ _ | exact land_beside.mono _ _ _ _ | exact LeO.refl _ | exact LeO.none _ | refine LeO.ite ?_ ?_ | refine LeO.bind ?_ (fun _ => ?_))
      | exact ih0 _ _ _ _
      | exact ih1 _ _ _ _ _ _ _ _
      | exact ih2 _ _ _ _ _
      | exact ih3 _ _ _ _ _ _ _ _
      | exact ih4 _ _ _ _ _ _ _ _ _ _ _ _ _ _
      | exact land_beside.mono _ _ _ _
      | exact LeO.none _
      | refine LeO.ite ?_ ?_
      | refine LeO.bind ?_ (fun _ => ?_)
set_option maxHeartbeats 8000000 in
set_option maxRecDepth 100000 in
theorem land_Settle.calls (k : Nat) (a0 : Int) (a1 : Int) (A2 : Option Addr) (c2 : Nat) (l2 : List Int) (r1 : Int) (r2 : Int) (r3 : List Int) (r4 : Int) (w : World) (hr2 : Kd.C (Kd.int .i64) w A2 l2.length l2) (hc2 : l2.length ≤ c2) (h : land_Settle.f k a0 a1 l2 = some (r1, r2, r3, r4)) :
    Calls Try.prog 31 #[.int .i64 a0, .int .i64 a1, .slice A2 l2.length c2] w fun e w' => ∃ v2_ : Value, e = .returned (.tuple #[.agg #[.int .i64 r1, .int .i64 r2, v2_], .int .i64 r4]) ∧ Kd.R (Kd.int .i64) 3 w' w.heap.size (fun _ => True) v2_ r3 ∧ Below w.heap.size w w' := by
 have hu24 := Try.underlying24
 have HR2 := Aside0.mk hr2
 have HC2 := Aside0.mk hc2
 clear hr2 hc2
 have HB := Aside0.mk (Below.refl w.heap.size w)
 have H : ((land_sides.f a0 a1).bind fun t472 => (if t472 = true then (land_Settle.j0 k a0 a1 l2 ((l2.length : Int) != (wrap64 ((wrap64 (a0 + 1)) * (wrap64 (a1 + 1)))))) else (land_Settle.j0 k a0 a1 l2 true))) = some (r1, r2, r3, r4) := h
 clear h
 have HC4 := Aside0.mk H
 clear H
 go_enter Try.func31, Try.ntmps31
 go_wp2_with (first | ((with_reducible refine gate_dst (N := 6) rfl ?_); (try (refine gate_guard (by rfl) ?_; dsimp only)); refine box_event ?hg (N := 6) ?hd (cs := #[.int .i64 0, .int .i64 0, .slice none 0 0]) (t := 24) ?hr ?_; (case hd => rfl); (case hg => rfl); (case hr => first | (go_simp; done) | (go_simp; rfl)); intro gb471 hg w5 hbox hb; have BK471 := Aside0.mk (hbox); have GW471 := Aside0.mk ((dS_ hg (dL_ HB) : w.heap.size ≤ gb471)); have GE471 := Aside0.mk ((dS_ hg (dL_ HB) : w.heap.size ≤ gb471)); replace HB := Aside0.mk (below_step (dL_ HB) hb); clear hb hbox hg))
 go_step3
 go_upto_region 1 with (fail)
 (try simp only [Act.put, List.setIfInBounds_toArray, List.set_cons_zero, List.set_cons_succ])
 go_cut [30] (fun v30 wc => ∃ (kq : Nat) (x30_3 : Bool), v30 = .bool x30_3 ∧ Aside0 (land_Settle.j0 kq a0 a1 l2 x30_3 = some (r1, r2, r3, r4)) ∧ Aside0 (kq ≤ k) ∧ Aside0 (wc.heap[gb471]? = some (.cells #[.int .i64 0, .int .i64 0, (.slice none 0 0)] 24 (0, 0))) ∧ Aside0 (Below w.heap.size w wc))
 case first =>
  have H := HC4.out
  clear HC4
  replace H := Option.bind_eq_some_iff.mp H
  obtain ⟨t472, A60, H⟩ := H
  replace H : (if t472 = true then (land_Settle.j0 k a0 a1 l2 ((l2.length : Int) != (wrap64 ((wrap64 (a0 + 1)) * (wrap64 (a1 + 1)))))) else (land_Settle.j0 k a0 a1 l2 true)) = some (r1, r2, r3, r4) := H
  have A6 := Aside0.mk A60
  clear A60
  by_cases c7 : t472 = true
  ·subst c7
   have H1 : (land_Settle.j0 k a0 a1 l2 ((l2.length : Int) != (wrap64 ((wrap64 (a0 + 1)) * (wrap64 (a1 + 1)))))) = some (r1, r2, r3, r4) := by rw [if_pos rfl] at H; exact H
   clear H
   have H := H1
   clear H1
   have H' := Aside0.mk H
   clear H
   go_wp2_with (first | ((with_reducible refine gate_callee (f := 54) rfl ?_); refine goesL_ (some 19) rfl rfl Try.func54 (by kernel_rfl) rfl #[.int .i64 a0, .int .i64 a1] rfl tA_ ?_; (with_reducible refine (land_sides.calls a0 a1 true _ A6.out).mono ?_); rintro e w' ⟨rfl, ⟨nd, rfl⟩⟩; refine ⟨_, rfl, ?_⟩))
   go_meet
   case rel => exact ⟨_, (((l2.length : Int) != (wrap64 ((wrap64 (a0 + 1)) * (wrap64 (a1 + 1)))))), tS_, H', ⟨by first | omega | exact Nat.le_refl _⟩, ⟨dB_ BK471⟩, ⟨dL1_ HB GE471⟩⟩
  ·replace c7 := Bool.eq_false_iff.mpr c7
   subst c7
   have H1 : (land_Settle.j0 k a0 a1 l2 true) = some (r1, r2, r3, r4) := by rw [if_neg (show ¬ (false = true) by decide)] at H; exact H
   clear H
   have H := H1
   clear H1
   have H' := Aside0.mk H
   clear H
   go_wp2_with (first | ((with_reducible refine gate_callee (f := 54) rfl ?_); refine goesL_ (some 19) rfl rfl Try.func54 (by kernel_rfl) rfl #[.int .i64 a0, .int .i64 a1] rfl tA_ ?_; (with_reducible refine (land_sides.calls a0 a1 false _ A6.out).mono ?_); rintro e w' ⟨rfl, ⟨nd, rfl⟩⟩; refine ⟨_, rfl, ?_⟩))
   go_meet
   case rel => exact ⟨_, (true), tS_, H', ⟨by first | omega | exact Nat.le_refl _⟩, ⟨dB_ BK471⟩, ⟨dL1_ HB GE471⟩⟩
 case rest =>
  clear HC4
  try clear c2
  obtain ⟨kq, x30_3, rfl, HA, HJ3, BK471, HB⟩ := hcut
  cases kq with
  | zero => exact absurd HA.out (by simp [land_Settle.j0])
  | succ kj3 =>
   have H := HA.out
   clear HA
   simp only [land_Settle.j0] at H
   by_cases c8 : x30_3 = true
   ·subst c8
    have H1 : (some (0, 0, ([] : List Int), 1)) = some (r1, r2, r3, r4) := by rw [if_pos rfl] at H; exact H
    clear H
    have H := H1
    clear H1
    simp only [Option.some.injEq, Prod.mk.injEq] at H
    obtain ⟨rfl, rfl, rfl, rfl⟩ := H
    obtain ⟨hcz9_0, hcz9_1, hcz9_2, hfz9_0, hfz9_1, hfz9_2⟩ := cs3_ BK471.out
    go_wp2
    (try simp only [Exit.noGoto_ret])
    refine bodyPost_ret (results_ct rfl _ _ gb471 24 #[.int .i64 0, .int .i64 0, .slice none 0 0] (0, 0) _ rfl (by (with_reducible repeat (first | refine blk_drewN ?_ _ | refine blk_drew ?_ | refine blk_alloc ?_ _)); refine blk_put (cs := #[.int .i64 0, .int .i64 0, .slice none 0 0]) ?_ 2 _ rfl; (with_reducible repeat (first | refine blk_drewN ?_ _ | refine blk_drew ?_ | refine blk_alloc ?_ _)); refine blk_put (cs := #[.int .i64 0, .int .i64 0, .slice none 0 0]) ?_ 1 _ rfl; (with_reducible repeat (first | refine blk_drewN ?_ _ | refine blk_drew ?_ | refine blk_alloc ?_ _)); refine blk_put (cs := #[.int .i64 0, .int .i64 0, .slice none 0 0]) ?_ 0 _ rfl; (with_reducible repeat (first | refine blk_drewN ?_ _ | refine blk_drew ?_ | refine blk_alloc ?_ _)); exact BK471.out) Try.underlying24 rfl (by kernel_rfl)) rfl ?_
    exact ⟨_, tE_, by first | exact Kd.R_nil _ _ _ _ _ | exact Kd.N_nil _ _ _ _ _ | exact Kd.V_nil _ _ _ _ _ | exact Kd.Q_nil _ _ _ _ _ | exact Kd.S_nil _ _ _ _ _, dL1_ HB GE471⟩
   ·replace c8 := Bool.eq_false_iff.mpr c8
    subst c8
    have H1 : (if 0 ≤ (l2.length : Int) then (if ((l2.length : Int) : Int).toNat ≤ 35184372088832 then (land_Settle.l0 kj3 a0 a1 l2 (l2.length : Int) 0 a0 a1 (List.replicate ((l2.length : Int) : Int).toNat 0)) else (none)) else (none)) = some (r1, r2, r3, r4) := by rw [if_neg (show ¬ (false = true) by decide)] at H; exact H
    clear H
    have H := H1
    clear H1
    by_cases c10 : 0 ≤ (l2.length : Int)
    ·rw [if_pos c10] at H
     have c10b0 := eq_true c10
     have c10b1 : decide (0 ≤ (l2.length : Int)) = true := decide_eq_true c10
     clear c10
     by_cases c11 : ((l2.length : Int) : Int).toNat ≤ 35184372088832
     ·rw [if_pos c11] at H
      have c11b0 := eq_true c11
      have c11b1 : decide (((l2.length : Int) : Int).toNat ≤ 35184372088832) = true := decide_eq_true c11
      clear c11
      obtain ⟨y473, hy473⟩ : ∃ y_ : List Int, y_ = (List.replicate ((l2.length : Int) : Int).toNat 0) := ⟨_, rfl⟩
      replace H : (land_Settle.l0 kj3 a0 a1 l2 (l2.length : Int) 0 a0 a1 y473) = some (r1, r2, r3, r4) := by first | (rw [hy473]; with_reducible exact H) | (have H2_ := (Option.bind_some _ _).symm.trans H; rw [hy473]; with_reducible exact H2_) | (have H2_ := (Option.bind_some _ _).symm.trans H; with_reducible exact H2_) | with_reducible exact H | (rw [hy473]; exact H) | exact H
      have Ny473 := Aside0.mk hy473
      clear hy473
      have H' := Aside0.mk H
      clear H
      go_wp2_with (first | ((with_reducible refine gate_dst (N := 36) rfl ?_); (try (refine gate_guard (by rfl) ?_; dsimp only)); refine Kd.R_make (Kd.int .i64) _ 3 rfl (N := 36) rfl 22 _ _ rfl (l2.length : Int) rfl rfl Try.underlying22 (.int .i64 0) 8 info3 rfl (by decide) (by omega) 0 (ok := fun _ => True) (okp := fun _ => True) rfl (fun _ hk => hk) trivial (of_decide_eq_true tW_) (Nat.le_trans (Nat.mul_le_mul_right _ (of_decide_eq_true tW_ : (l2.length : Int).toNat ≤ 35184372088832)) (by omega)) (Below.refl _ _) (Nat.le_refl _) ?_; intro v474 w12 ho13 hb hg_ hnew_; clear hg_ hnew_; (first | rw [← Ny473.out] at ho13 | (simp only [Int.reduceToNat] at ho13; rw [← Ny473.out] at ho13)); have HO475 := Aside0.mk (Kd.R_lower ho13 (below_size (dL1_ HB GE471))); replace BK471 := Aside0.mk (blk_below (g := gb471) (o := .cells #[.int .i64 0, .int .i64 0, .slice none 0 0] 24 (0, 0)) (dB_ BK471) hb); replace HB := Aside0.mk (below_step (dL1_ HB GE471) hb); clear hb ho13; obtain ⟨Ao14, co14, eo14⟩ := Kd.R_slice HO475.out; subst eo14) | ((with_reducible refine gate_dst (N := 8) rfl ?_); (try (refine gate_guard (by rfl) ?_; dsimp only)); refine box_event ?hg (N := 8) ?hd (cs := #[.int .i64 0, .int .i64 0, .slice none 0 0]) (t := 24) ?hr ?_; (case hd => rfl); (case hg => rfl); (case hr => first | (go_simp; done) | (go_simp; rfl)); intro gb476 hg w15 hbox hb; replace HO475 := Aside0.mk (Kd.R_below (dR_ HO475) hb); have BK476 := Aside0.mk (hbox); have GW476 := Aside0.mk ((dS_ hg (dL1_ HB GE471) : w.heap.size ≤ gb476)); have GE476 := Aside0.mk ((dS_ hg (dL1_ HB GE471) : w.heap.size ≤ gb476)); replace HB := Aside0.mk (below_step (dL1_ HB GE471) hb); have NB471_476 := Aside0.mk ((by rw [hg]; exact Nat.ne_of_lt (blk_lt (dB_ BK471)) : gb471 ≠ gb476)); have NB476_471 := Aside0.mk ((by rw [hg]; exact Nat.ne_of_gt (blk_lt (dB_ BK471)) : gb476 ≠ gb471)); replace BK471 := Aside0.mk (blk_below (g := gb471) (o := .cells #[.int .i64 0, .int .i64 0, .slice none 0 0] 24 (0, 0)) (dB_ BK471) hb); clear hb hbox hg; have hnb16 := NB476_471.out; have hnc16 := NB471_476.out; obtain ⟨hcz17_0, hcz17_1, hcz17_2, hfz17_0, hfz17_1, hfz17_2⟩ := cs3_ BK476.out))
      (try (go_step3; try go_wp2))
      go_loopg [40] kj3 (fun kq v40 w' => ∃ (x40_2 : Int) (x477002_2 : List Int) (u477002 : Value), v40 = .int .i64 x40_2 ∧ Aside0 (land_Settle.l0 kq a0 a1 l2 (l2.length : Int) x40_2 a0 a1 x477002_2 = some (r1, r2, r3, r4)) ∧ Aside0 (kq ≤ kj3) ∧ Aside0 (Kd.R (Kd.int .i64) 3 w' w.heap.size (fun _ => True) u477002 x477002_2) ∧ Aside0 (w'.heap[gb471]? = some (.cells #[.int .i64 0, .int .i64 0, (.slice none 0 0)] 24 (0, 0))) ∧ Aside0 (w'.heap[gb476]? = some (.cells #[.int .i64 a0, .int .i64 a1, u477002] 24 (0, 0))) ∧ Aside0 (Below w.heap.size w w'))
      case atStart => exact ⟨(0), (y473), (.slice Ao14 y473.length co14), tS_, H', ⟨Nat.le_refl _⟩, ⟨by (with_reducible repeat (first | apply Kd.R_alloc | apply Kd.R_drewN | apply Kd.R_drew)); exact Kd.R_mono (Kd.R_far (p := ⟨gb476, 2, none⟩) (Kd.R_far (p := ⟨gb476, 1, none⟩) (Kd.R_far (p := ⟨gb476, 0, none⟩) (Kd.R_types HO475.out BK476.out (by decide)) (fun _ hk => hk.2) (.int .i64 a0)) (fun _ hk => hk.2) (.int .i64 a1)) (fun _ hk => hk.2) (.slice Ao14 y473.length co14)) (fun _ hk => trivial)⟩, ⟨by (with_reducible repeat (first | refine blk_drewN ?_ _ | refine blk_drew ?_ | refine blk_alloc ?_ _)); refine blk_far ?_ NB471_476.out _; (with_reducible repeat (first | refine blk_drewN ?_ _ | refine blk_drew ?_ | refine blk_alloc ?_ _)); refine blk_far ?_ NB471_476.out _; (with_reducible repeat (first | refine blk_drewN ?_ _ | refine blk_drew ?_ | refine blk_alloc ?_ _)); refine blk_far ?_ NB471_476.out _; (with_reducible repeat (first | refine blk_drewN ?_ _ | refine blk_drew ?_ | refine blk_alloc ?_ _)); exact BK471.out⟩, ⟨by (with_reducible repeat (first | refine blk_drewN ?_ _ | refine blk_drew ?_ | refine blk_alloc ?_ _)); refine blk_put (cs := #[.int .i64 a0, .int .i64 a1, .slice none 0 0]) ?_ 2 _ rfl; (with_reducible repeat (first | refine blk_drewN ?_ _ | refine blk_drew ?_ | refine blk_alloc ?_ _)); refine blk_put (cs := #[.int .i64 a0, .int .i64 0, .slice none 0 0]) ?_ 1 _ rfl; (with_reducible repeat (first | refine blk_drewN ?_ _ | refine blk_drew ?_ | refine blk_alloc ?_ _)); refine blk_put (cs := #[.int .i64 0, .int .i64 0, .slice none 0 0]) ?_ 0 _ rfl; (with_reducible repeat (first | refine blk_drewN ?_ _ | refine blk_drew ?_ | refine blk_alloc ?_ _)); exact BK476.out⟩, ⟨dL2_ HB GE471 GE476⟩⟩
      case round =>
       clear H'
       try clear c2
       try clear c8
       try clear c10
       try clear c10b0
       try clear c10b1
       try clear c11
       try clear c11b0
       try clear c11b1
       try clear hcz17_0
       try clear hcz17_1
       try clear hcz17_2
       try clear hfz17_0
       try clear hfz17_1
       try clear hfz17_2
       obtain ⟨x40_2, x477002_2, u477002, rfl, HA, HK2, HO_477002, BK471, BK476, HB⟩ := hrel
       cases gk with
       | zero => exact absurd HA.out (by simp [land_Settle.l0])
       | succ k2 =>
        have H := HA.out
        clear HA
        simp only [land_Settle.l0] at H
        by_cases c18 : x40_2 < (l2.length : Int)
        ·rw [if_pos c18] at H
         have c18b0 : decide (x40_2 < (l2.length : Int)) = true := decide_eq_true c18
         clear c18
         by_cases c19 : 0 ≤ x40_2
         ·rw [if_pos c19] at H
          have c19b0 : decide (0 ≤ x40_2) = true := decide_eq_true c19
          clear c19
          by_cases c20 : x40_2 < (l2.length : Int)
          ·rw [if_pos c20] at H
           have c20b0 : decide (x40_2 < (l2.length : Int)) = true := decide_eq_true c20
           clear c20
           obtain ⟨ji21, hji21⟩ : ∃ j_ : Int, (mx (rd l2 x40_2) 0) = j_ := ⟨_, rfl⟩
           replace H : (if x40_2 < (x477002_2.length : Int) then (land_Settle.l0 k2 a0 a1 l2 (l2.length : Int) (wrap64 (x40_2 + 1)) a0 a1 (x477002_2.set (x40_2 : Int).toNat (mn (ji21) 15))) else (none)) = some (r1, r2, r3, r4) := by first | (rw [hji21] at H; exact H) | (simp only [hji21] at H ⊢; exact H)
           have hji21_ : (if (rd l2 x40_2) < 0 then 0 else (rd l2 x40_2)) = ji21 := hji21
           obtain ⟨ji22, hji22⟩ : ∃ j_ : Int, (mn (ji21) 15) = j_ := ⟨_, rfl⟩
           replace H : (if x40_2 < (x477002_2.length : Int) then (land_Settle.l0 k2 a0 a1 l2 (l2.length : Int) (wrap64 (x40_2 + 1)) a0 a1 (x477002_2.set (x40_2 : Int).toNat (ji22))) else (none)) = some (r1, r2, r3, r4) := by first | (rw [hji22] at H; exact H) | (simp only [hji22] at H ⊢; exact H)
           have hji22_ : (if 15 < (ji21) then 15 else (ji21)) = ji22 := hji22
           by_cases c23 : x40_2 < (x477002_2.length : Int)
           ·rw [if_pos c23] at H
            have c23b0 : decide (x40_2 < (x477002_2.length : Int)) = true := decide_eq_true c23
            clear c23
            obtain ⟨y478, hy478⟩ : ∃ y_ : List Int, y_ = (x477002_2.set (x40_2 : Int).toNat (ji22)) := ⟨_, rfl⟩
            replace H : (land_Settle.l0 k2 a0 a1 l2 (l2.length : Int) (wrap64 (x40_2 + 1)) a0 a1 y478) = some (r1, r2, r3, r4) := by first | (rw [hy478]; with_reducible exact H) | (have H2_ := (Option.bind_some _ _).symm.trans H; rw [hy478]; with_reducible exact H2_) | (have H2_ := (Option.bind_some _ _).symm.trans H; with_reducible exact H2_) | with_reducible exact H | (rw [hy478]; exact H) | exact H
            have Ny478 := Aside0.mk hy478
            clear hy478
            have H' := Aside0.mk H
            clear H
            have p477 : 0 ≤ (x40_2 : Int) := of_decide_eq_true tW_
            have q477 : x40_2 < (l2.length : Int) := of_decide_eq_true tW_
            obtain ⟨ad477, e477, hx477_0⟩ := Kd.at_int HR2.out x40_2 p477 q477
            cases e477
            replace hx477_0 := bc_ HB hx477_0
            replace p477 := eq_true p477
            replace q477 := eq_true q477
            have hnb25 := NB476_471.out
            have hnc25 := NB471_476.out
            obtain ⟨hcz26_0, hcz26_1, hcz26_2, hfz26_0, hfz26_1, hfz26_2⟩ := cs3_ BK476.out
            have p24 : 0 ≤ (x40_2 : Int) := of_decide_eq_true tW_
            have q24 : (x40_2 : Int) < ((x477002_2.length : Int) : Int) := of_decide_eq_true tW_
            obtain ⟨go24, co24, eo24, gb24, gl24, cl24, HG24⟩ := Kd.R_form HO_477002.out (by omega)
            (first | cases eo24 | (injection eo24 with ea_ en_ ec_; (first | subst ea_ | (injection ea_ with ea_; subst ea_)); subst ec_; clear en_))
            have GB24 := Aside0.mk gb24
            have GG24 := Aside0.mk HG24
            clear gb24 gl24 HG24
            obtain ⟨hx24_0, hf24_0⟩ := Kd.R_celln 0 HO_477002.out (x40_2 : Int) p24 q24
            replace p24 := eq_true p24
            replace q24 := eq_true q24
            have HP27 := Kd.R_putg HO_477002.out (x40_2 : Int) ji22
            go_wp2_with (first | ((with_reducible refine gate_store (t := 3) (p := 51) rfl ?_); refine store_event (t := 3) (p := 51) (v := ?vo_w28) (w1 := (wr.setCell ⟨go24, (x40_2 : Int).toNat, none⟩ (.int .i64 ji22))) ?hg ?ho ?hn ?hr ?_; (case ho => rfl); (case hg => rfl); (case hn => rfl); (case hr => first | (go_simp; done) | (go_simp; rfl)); intro w28 hw; have hg : wr.grownBy w28 (some go24) := (by rw [hw]; exact HP27.2); have hp_ : Kd.R (Kd.int .i64) 3 w28 w.heap.size (fun _ => True) (.slice (some ⟨go24, 0, none⟩) x477002_2.length co24) y478 := (by rw [hw, Ny478.out]; exact HP27.1); clear HP27; replace BK471 := Aside0.mk (blk_grown (g := gb471) (o := .cells #[.int .i64 0, .int .i64 0, .slice none 0 0] 24 (0, 0)) (dB_ BK471) hg (Kd.R_ne HO_477002.out BK471.out (by decide))); replace BK476 := Aside0.mk (blk_grown (g := gb476) (o := .cells #[.int .i64 a0, .int .i64 a1, .slice (some ⟨go24, 0, none⟩) x477002_2.length co24] 24 (0, 0)) (dB_ BK476) hg (Kd.R_ne HO_477002.out BK476.out (by decide))); replace HO_477002 := Aside0.mk (hp_); replace HB := Aside0.mk ((by rw [hw]; exact below_set (HB.out) GB24.out : Below w.heap.size w w28)); clear hg hw hp_))
            go_roundg k2
            case measure => have := HJ3.out; have := HK2.out; omega
            case rel => exact ⟨(wrap64 (x40_2 + 1)), (y478), (.slice (some ⟨go24, 0, none⟩) x477002_2.length co24), tS_, H', ⟨by have := HJ3.out; have := HK2.out; omega⟩, ⟨dR_ HO_477002⟩, ⟨dB_ BK471⟩, ⟨dB_ BK476⟩, ⟨dL2_ HB GE471 GE476⟩⟩
           ·rw [if_neg c23] at H
            exact absurd H (by simp)
          ·rw [if_neg c20] at H
           exact absurd H (by simp)
         ·rw [if_neg c19] at H
          exact absurd H (by simp)
        ·rw [if_neg c18] at H
         have c18b0 : decide (x40_2 < (l2.length : Int)) = false := decide_eq_false c18
         clear c18
         have H' := Aside0.mk H
         clear H
         go_wp2
         (try (go_step3; try go_wp2))
         go_loopg [] k2 (fun kq w' => ∃ (x472000_3 : Int) (x472001_3 : Int) (x477002_3 : List Int) (u477002 : Value), Aside0 (land_Settle.l1 kq a1 (wrap64 (a0 + 1)) a0 a1 x477002_3 = some (r1, r2, r3, r4)) ∧ Aside0 (kq ≤ k2) ∧ Aside0 (Kd.R (Kd.int .i64) 3 w' w.heap.size (fun _ => True) u477002 x477002_3) ∧ Aside0 (w'.heap[gb471]? = some (.cells #[.int .i64 x472000_3, .int .i64 x472001_3, (.slice none 0 0)] 24 (0, 0))) ∧ Aside0 (w'.heap[gb476]? = some (.cells #[.int .i64 a0, .int .i64 a1, u477002] 24 (0, 0))) ∧ Aside0 (Below w.heap.size w w'))
         case atStart => exact ⟨(0), (0), (x477002_2), (u477002), H', ⟨Nat.le_refl _⟩, ⟨dR_ HO_477002⟩, ⟨dB_ BK471⟩, ⟨dB_ BK476⟩, ⟨dL2_ HB GE471 GE476⟩⟩
         case round =>
          clear H'
          try clear c2
          try clear c8
          try clear c10
          try clear c10b0
          try clear c10b1
          try clear c11
          try clear c11b0
          try clear c11b1
          try clear c18
          try clear c18b0
          try clear c19
          try clear c20
          try clear c23
          try clear hcz17_0
          try clear hcz17_1
          try clear hcz17_2
          try clear hfz17_0
          try clear hfz17_1
          try clear hfz17_2
          obtain ⟨x472000_3, x472001_3, x477002_3, u477002, HA, HK3, HO_477002, BK471, BK476, HB⟩ := hrel
          cases gk with
          | zero => exact absurd HA.out (by simp [land_Settle.l1])
          | succ k3 =>
           have H := HA.out
           clear HA
           simp only [land_Settle.l1] at H
           have H' := Aside0.mk H
           clear H
           have hnb29 := NB476_471.out
           have hnc29 := NB471_476.out
           obtain ⟨hcz30_0, hcz30_1, hcz30_2, hfz30_0, hfz30_1, hfz30_2⟩ := cs3_ BK476.out
           obtain ⟨Ao31, co31, eo31⟩ := Kd.R_slice HO_477002.out
           subst eo31
           go_wp2
           (try (go_step3; try go_wp2))
           go_loopg [58] k3 (fun kq v58 w' => ∃ (x58_4 : Int), v58 = .int .i64 x58_4 ∧ Aside0 (land_Settle.l2 kq a1 (wrap64 (a0 + 1)) x477002_3 (x477002_3.length : Int) x58_4 a0 a1 x477002_3 = some (r1, r2, r3, r4)) ∧ Aside0 (kq ≤ k3) ∧ Aside0 (Kd.R (Kd.int .i64) 3 w' w.heap.size (fun _ => True) (.slice Ao31 x477002_3.length co31) x477002_3) ∧ Aside0 (Kd.R (Kd.int .i64) 3 w' w.heap.size (fun _ => True) (.slice Ao31 x477002_3.length co31) x477002_3) ∧ Aside0 (w'.heap[gb471]? = some (.cells #[.int .i64 x472000_3, .int .i64 x472001_3, (.slice none 0 0)] 24 (0, 0))) ∧ Aside0 (w'.heap[gb476]? = some (.cells #[.int .i64 a0, .int .i64 a1, (.slice Ao31 x477002_3.length co31)] 24 (0, 0))) ∧ Aside0 (Below w.heap.size w w'))
           case atStart => exact ⟨(0), tS_, H', ⟨Nat.le_refl _⟩, ⟨dR_ HO_477002⟩, ⟨dR_ HO_477002⟩, ⟨dB_ BK471⟩, ⟨dB_ BK476⟩, ⟨dL2_ HB GE471 GE476⟩⟩
           case round =>
            clear H'
            try clear c2
            try clear c8
            try clear c10
            try clear c10b0
            try clear c10b1
            try clear c11
            try clear c11b0
            try clear c11b1
            try clear c18
            try clear c18b0
            try clear c19
            try clear c20
            try clear c23
            try clear hcz17_0
            try clear hcz17_1
            try clear hcz17_2
            try clear hcz30_0
            try clear hcz30_1
            try clear hcz30_2
            try clear hfz17_0
            try clear hfz17_1
            try clear hfz17_2
            try clear hfz30_0
            try clear hfz30_1
            try clear hfz30_2
            obtain ⟨x58_4, rfl, HA, HK4, HO_56, HO_477002, BK471, BK476, HB⟩ := hrel
            cases gk with
            | zero => exact absurd HA.out (by simp [land_Settle.l2])
            | succ k4 =>
             have H := HA.out
             clear HA
             simp only [land_Settle.l2] at H
             by_cases c32 : x58_4 < (x477002_3.length : Int)
             ·rw [if_pos c32] at H
              have c32b0 : decide (x58_4 < (x477002_3.length : Int)) = true := decide_eq_true c32
              clear c32
              by_cases c33 : 0 ≤ x58_4
              ·rw [if_pos c33] at H
               have c33b0 : decide (0 ≤ x58_4) = true := decide_eq_true c33
               clear c33
               by_cases c34 : x58_4 < (x477002_3.length : Int)
               ·rw [if_pos c34] at H
                have c34b0 : decide (x58_4 < (x477002_3.length : Int)) = true := decide_eq_true c34
                clear c34
                replace H := Option.bind_eq_some_iff.mp H
                obtain ⟨t480, A350, H⟩ := H
                replace H : (land_Settle.l3 k4 a1 (wrap64 (a0 + 1)) x58_4 (rd x477002_3 x58_4) (rd x477002_3 x58_4) x477002_3 (x477002_3.length : Int) x58_4 t480 (t480.length : Int) 0 a0 a1 x477002_3) = some (r1, r2, r3, r4) := H
                have A35 := Aside0.mk A350
                clear A350
                have H' := Aside0.mk H
                clear H
                have p479 : 0 ≤ (x58_4 : Int) := of_decide_eq_true tW_
                have q479 : x58_4 < (x477002_3.length : Int) := of_decide_eq_true tW_
                obtain ⟨ad479, e479, hx479_0⟩ := Kd.at_int (Kd.R_reads' HO_56.out).2.2 x58_4 p479 q479
                cases e479
                replace p479 := eq_true p479
                replace q479 := eq_true q479
                go_wp2_with (first | ((with_reducible refine gate_callee (f := 55) rfl ?_); refine goesL_ (some 68) rfl rfl Try.func55 (by kernel_rfl) rfl #[.int .i64 x58_4, .int .i64 (wrap64 (a0 + 1)), .int .i64 (wrap64 (a1 + 1))] rfl tA_ ?_; (with_reducible refine (land_beside.calls k4 x58_4 (wrap64 (a0 + 1)) (wrap64 (a1 + 1)) t480 _ A35.out).mono ?_); rintro e w36 ⟨v481, rfl, ho0, hb⟩; refine ⟨_, rfl, ?_⟩; have HO482 := Aside0.mk (Kd.R_lower (Kd.R_new' (Kd.R_new' ho0 (Kd.R_lt (dR_ HO_56))) (Kd.R_lt (dR_ HO_477002))) (below_size (dL2_ HB GE471 GE476))); replace HO_56 := Aside0.mk (Kd.R_elder' (dR_ HO_56) (Kd.R_base ho0) hb); replace HO_477002 := Aside0.mk (Kd.R_elder' (dR_ HO_477002) (Kd.R_base ho0) hb); replace BK471 := Aside0.mk (blk_below (g := gb471) (o := .cells #[.int .i64 x472000_3, .int .i64 x472001_3, .slice none 0 0] 24 (0, 0)) (dB_ BK471) hb); replace BK476 := Aside0.mk (blk_below (g := gb476) (o := .cells #[.int .i64 a0, .int .i64 a1, .slice (some ad479) x477002_3.length co31] 24 (0, 0)) (dB_ BK476) hb); replace HB := Aside0.mk (below_step (dL2_ HB GE471 GE476) hb); obtain ⟨Ao37, co37, eo37⟩ := Kd.R_slice HO482.out; subst eo37))
                (try (go_step3; try go_wp2))
                go_loopg [14, 70] k4 (fun kq v14 v70 w' => ∃ (x14_5 : Int) (x70_5 : Int), v14 = .int .i64 x14_5 ∧ v70 = .int .i64 x70_5 ∧ Aside0 (land_Settle.l3 kq a1 (wrap64 (a0 + 1)) x58_4 (rd x477002_3 x58_4) x14_5 x477002_3 (x477002_3.length : Int) x58_4 t480 (t480.length : Int) x70_5 a0 a1 x477002_3 = some (r1, r2, r3, r4)) ∧ Aside0 (kq ≤ k4) ∧ Aside0 (Kd.R (Kd.int .i64) 3 w' w.heap.size (fun k_ => some k_ ≠ ((.slice Ao37 t480.length co37) : Value).ownBlock) (.slice (some ad479) x477002_3.length co31) x477002_3) ∧ Aside0 (Kd.R (Kd.int .i64) 3 w' w.heap.size (fun k_ => some k_ ≠ ((.slice (some ad479) x477002_3.length co31) : Value).ownBlock ∧ some k_ ≠ ((.slice (some ad479) x477002_3.length co31) : Value).ownBlock) (.slice Ao37 t480.length co37) t480) ∧ Aside0 (Kd.R (Kd.int .i64) 3 w' w.heap.size (fun k_ => some k_ ≠ ((.slice Ao37 t480.length co37) : Value).ownBlock) (.slice (some ad479) x477002_3.length co31) x477002_3) ∧ Aside0 (w'.heap[gb471]? = some (.cells #[.int .i64 x472000_3, .int .i64 x472001_3, (.slice none 0 0)] 24 (0, 0))) ∧ Aside0 (w'.heap[gb476]? = some (.cells #[.int .i64 a0, .int .i64 a1, (.slice (some ad479) x477002_3.length co31)] 24 (0, 0))) ∧ Aside0 (Below w.heap.size w w'))
                case atStart => exact ⟨(rd x477002_3 x58_4), (0), tS_, tS_, H', ⟨Nat.le_refl _⟩, ⟨by (with_reducible repeat (first | apply Kd.R_alloc | apply Kd.R_drewN | apply Kd.R_drew)); exact Kd.R_mono HO_56.out (fun _ hk => hk.2)⟩, ⟨by (with_reducible repeat (first | apply Kd.R_alloc | apply Kd.R_drewN | apply Kd.R_drew)); exact Kd.R_mono HO482.out (fun _ hk => ⟨hk.1.2, hk.2⟩)⟩, ⟨by (with_reducible repeat (first | apply Kd.R_alloc | apply Kd.R_drewN | apply Kd.R_drew)); exact Kd.R_mono HO_477002.out (fun _ hk => hk.2)⟩, ⟨dB_ BK471⟩, ⟨dB_ BK476⟩, ⟨dL2_ HB GE471 GE476⟩⟩
                case round =>
                 clear H'
                 try clear c2
                 try clear c8
                 try clear c10
                 try clear c10b0
                 try clear c10b1
                 try clear c11
                 try clear c11b0
                 try clear c11b1
                 try clear c18
                 try clear c18b0
                 try clear c19
                 try clear c20
                 try clear c23
                 try clear c32
                 try clear c32b0
                 try clear c33
                 try clear c33b0
                 try clear c34
                 try clear c34b0
                 try clear hcz17_0
                 try clear hcz17_1
                 try clear hcz17_2
                 try clear hcz30_0
                 try clear hcz30_1
                 try clear hcz30_2
                 try clear hfz17_0
                 try clear hfz17_1
                 try clear hfz17_2
                 try clear hfz30_0
                 try clear hfz30_1
                 try clear hfz30_2
                 try clear hx479_0
                 try clear p479
                 try clear q479
                 obtain ⟨x14_5, x70_5, rfl, rfl, HA, HK5, HO_56, HO_68, HO_477002, BK471, BK476, HB⟩ := hrel
                 cases gk with
                 | zero => exact absurd HA.out (by simp [land_Settle.l3])
                 | succ k5 =>
                  have H := HA.out
                  clear HA
                  simp only [land_Settle.l3] at H
                  by_cases c38 : x70_5 < (t480.length : Int)
                  ·rw [if_pos c38] at H
                   have c38b0 : decide (x70_5 < (t480.length : Int)) = true := decide_eq_true c38
                   clear c38
                   by_cases c39 : 0 ≤ x70_5
                   ·rw [if_pos c39] at H
                    have c39b0 : decide (0 ≤ x70_5) = true := decide_eq_true c39
                    clear c39
                    by_cases c40 : x70_5 < (t480.length : Int)
                    ·rw [if_pos c40] at H
                     have c40b0 : decide (x70_5 < (t480.length : Int)) = true := decide_eq_true c40
                     clear c40
                     by_cases c41 : 0 ≤ (rd t480 x70_5)
                     ·rw [if_pos c41] at H
                      have c41b0 : decide (0 ≤ (rd t480 x70_5)) = true := decide_eq_true c41
                      clear c41
                      by_cases c42 : (rd t480 x70_5) < (x477002_3.length : Int)
                      ·rw [if_pos c42] at H
                       have c42b0 : decide ((rd t480 x70_5) < (x477002_3.length : Int)) = true := decide_eq_true c42
                       clear c42
                       obtain ⟨ji43, hji43⟩ : ∃ j_ : Int, (mn x14_5 (wrap64 ((rd x477002_3 (rd t480 x70_5)) + 1))) = j_ := ⟨_, rfl⟩
                       replace H : (land_Settle.l3 k5 a1 (wrap64 (a0 + 1)) x58_4 (rd x477002_3 x58_4) ji43 x477002_3 (x477002_3.length : Int) x58_4 t480 (t480.length : Int) (wrap64 (x70_5 + 1)) a0 a1 x477002_3) = some (r1, r2, r3, r4) := by first | (rw [hji43] at H; exact H) | (simp only [hji43] at H ⊢; exact H)
                       have hji43_ : (if (wrap64 ((rd x477002_3 (rd t480 x70_5)) + 1)) < x14_5 then (wrap64 ((rd x477002_3 (rd t480 x70_5)) + 1)) else x14_5) = ji43 := hji43
                       have H' := Aside0.mk H
                       clear H
                       have p483 : 0 ≤ (x70_5 : Int) := of_decide_eq_true tW_
                       have q483 : x70_5 < (t480.length : Int) := of_decide_eq_true tW_
                       obtain ⟨ad483, e483, hx483_0⟩ := Kd.at_int (Kd.R_reads' HO_68.out).2.2 x70_5 p483 q483
                       cases e483
                       replace p483 := eq_true p483
                       replace q483 := eq_true q483
                       have hnb44 := NB476_471.out
                       have hnc44 := NB471_476.out
                       obtain ⟨hcz45_0, hcz45_1, hcz45_2, hfz45_0, hfz45_1, hfz45_2⟩ := cs3_ BK476.out
                       have p484 : 0 ≤ ((rd t480 x70_5) : Int) := of_decide_eq_true tW_
                       have q484 : (rd t480 x70_5) < (x477002_3.length : Int) := of_decide_eq_true tW_
                       obtain ⟨ad484, e484, hx484_0⟩ := Kd.at_int (Kd.R_reads' HO_477002.out).2.2 (rd t480 x70_5) p484 q484
                       obtain rfl : ad479 = ad484 := (by injection e484)
                       replace p484 := eq_true p484
                       replace q484 := eq_true q484
                       go_wp2
                       go_roundg k5
                       case measure => have := HJ3.out; have := HK2.out; have := HK3.out; have := HK4.out; have := HK5.out; omega
                       case rel => exact ⟨(ji43), (wrap64 (x70_5 + 1)), (by first | rfl | (simp; done) | (simp only [← hji43]; rw [shl_one_small _ (by assumption) (by omega)]; done) | (simp only [← hji43] <;> (first | rfl | simp)) | (simp [*]; done) | (refine congrArg (Value.int .i64) ?_; unfold wrap64; omega) | (simp only [shl_one_small _ (by assumption) (by omega)]; done) | (simp [*]; rw [shl_one_small _ (by assumption) (by omega)]; done)), tS_, H', ⟨by have := HJ3.out; have := HK2.out; have := HK3.out; have := HK4.out; have := HK5.out; omega⟩, ⟨dR_ HO_56⟩, ⟨dR_ HO_68⟩, ⟨dR_ HO_477002⟩, ⟨dB_ BK471⟩, ⟨dB_ BK476⟩, ⟨dL2_ HB GE471 GE476⟩⟩
                      ·rw [if_neg c42] at H
                       exact absurd H (by simp)
                     ·rw [if_neg c41] at H
                      exact absurd H (by simp)
                    ·rw [if_neg c40] at H
                     exact absurd H (by simp)
                   ·rw [if_neg c39] at H
                    exact absurd H (by simp)
                  ·rw [if_neg c38] at H
                   have c38b0 : decide (x70_5 < (t480.length : Int)) = false := decide_eq_false c38
                   clear c38
                   by_cases c46 : x14_5 < (rd x477002_3 x58_4)
                   ·rw [if_pos c46] at H
                    have c46b0 : decide (x14_5 < (rd x477002_3 x58_4)) = true := decide_eq_true c46
                    clear c46
                    by_cases c47 : 0 ≤ x58_4
                    ·rw [if_pos c47] at H
                     have c47b0 : decide (0 ≤ x58_4) = true := decide_eq_true c47
                     clear c47
                     by_cases c48 : x58_4 < (x477002_3.length : Int)
                     ·rw [if_pos c48] at H
                      have c48b0 : decide (x58_4 < (x477002_3.length : Int)) = true := decide_eq_true c48
                      clear c48
                      obtain ⟨y485, hy485⟩ : ∃ y_ : List Int, y_ = (x477002_3.set (x58_4 : Int).toNat x14_5) := ⟨_, rfl⟩
                      replace H : (land_Settle.l1 k5 a1 (wrap64 (a0 + 1)) a0 a1 y485) = some (r1, r2, r3, r4) := by first | (rw [hy485]; with_reducible exact H) | (have H2_ := (Option.bind_some _ _).symm.trans H; rw [hy485]; with_reducible exact H2_) | (have H2_ := (Option.bind_some _ _).symm.trans H; with_reducible exact H2_) | with_reducible exact H | (rw [hy485]; exact H) | exact H
                      have Ny485 := Aside0.mk hy485
                      clear hy485
                      have H' := Aside0.mk H
                      clear H
                      have hnb50 := NB476_471.out
                      have hnc50 := NB471_476.out
                      obtain ⟨hcz51_0, hcz51_1, hcz51_2, hfz51_0, hfz51_1, hfz51_2⟩ := cs3_ BK476.out
                      have p49 : 0 ≤ (x58_4 : Int) := of_decide_eq_true tW_
                      have q49 : (x58_4 : Int) < ((x477002_3.length : Int) : Int) := of_decide_eq_true tW_
                      obtain ⟨go49, co49, eo49, gb49, gl49, cl49, HG49⟩ := Kd.R_form HO_477002.out (by omega)
                      (first | cases eo49 | (injection eo49 with ea_ en_ ec_; (first | subst ea_ | (injection ea_ with ea_; subst ea_)); subst ec_; clear en_))
                      have GB49 := Aside0.mk gb49
                      have GG49 := Aside0.mk HG49
                      clear gb49 gl49 HG49
                      (first | simp only [add_plain] at hx479_0 | skip)
                      (first | simp only [add_plain] at hx484_0 | skip)
                      obtain ⟨hx49_0, hf49_0⟩ := Kd.R_celln 0 HO_477002.out (x58_4 : Int) p49 q49
                      replace p49 := eq_true p49
                      replace q49 := eq_true q49
                      have HP52 := Kd.R_putg HO_477002.out (x58_4 : Int) x14_5
                      go_wp2_with (first | ((with_reducible refine gate_store (t := 3) (p := 90) rfl ?_); refine store_event (t := 3) (p := 90) (v := ?vo_w53) (w1 := (wr.setCell ⟨go49, (x58_4 : Int).toNat, none⟩ (.int .i64 x14_5))) ?hg ?ho ?hn ?hr ?_; (case ho => rfl); (case hg => rfl); (case hn => rfl); (case hr => first | (go_simp; done) | (go_simp; rfl)); intro w53 hw; have hg : wr.grownBy w53 (some go49) := (by rw [hw]; exact HP52.2); have hp_ : Kd.R (Kd.int .i64) 3 w53 w.heap.size (fun k_ => some k_ ≠ (.slice Ao37 t480.length co37 : Value).ownBlock) (.slice (some ⟨go49, 0, none⟩) x477002_3.length co31) y485 := (by rw [hw, Ny485.out]; exact HP52.1); clear HP52; replace HO_68 := Aside0.mk (Kd.R_after (v := (.slice (some ⟨go49, 0, none⟩) x477002_3.length co31)) (v1 := (.slice (some ⟨go49, 0, none⟩) x477002_3.length co31)) (ok := (fun k_ => some k_ ≠ (.slice (some ⟨go49, 0, none⟩) x477002_3.length co31 : Value).ownBlock)) (dR_ HO_68) hg (.inl rfl)); replace BK471 := Aside0.mk (blk_grown (g := gb471) (o := .cells #[.int .i64 x472000_3, .int .i64 x472001_3, .slice none 0 0] 24 (0, 0)) (dB_ BK471) hg (Kd.R_ne HO_477002.out BK471.out (by decide))); replace BK476 := Aside0.mk (blk_grown (g := gb476) (o := .cells #[.int .i64 a0, .int .i64 a1, .slice (some ⟨go49, 0, none⟩) x477002_3.length co31] 24 (0, 0)) (dB_ BK476) hg (Kd.R_ne HO_477002.out BK476.out (by decide))); replace HO_477002 := Aside0.mk (hp_); replace HB := Aside0.mk ((by rw [hw]; exact below_set (HB.out) GB49.out : Below w.heap.size w w53)); clear hg hw hp_))
                      go_roundg k5
                      case measure => have := HJ3.out; have := HK2.out; have := HK3.out; have := HK4.out; have := HK5.out; omega
                      case rel => exact ⟨(x472000_3), (x472001_3), (y485), (.slice (some ⟨go49, 0, none⟩) x477002_3.length co31), H', ⟨by have := HJ3.out; have := HK2.out; have := HK3.out; have := HK4.out; have := HK5.out; omega⟩, ⟨by (with_reducible repeat (first | apply Kd.R_alloc | apply Kd.R_drewN | apply Kd.R_drew)); exact Kd.R_mono HO_477002.out (fun _ hk => trivial)⟩, ⟨dB_ BK471⟩, ⟨dB_ BK476⟩, ⟨dL2_ HB GE471 GE476⟩⟩
                     ·rw [if_neg c48] at H
                      exact absurd H (by simp)
                    ·rw [if_neg c47] at H
                     exact absurd H (by simp)
                   ·rw [if_neg c46] at H
                    have c46b0 : decide (x14_5 < (rd x477002_3 x58_4)) = false := decide_eq_false c46
                    clear c46
                    have H' := Aside0.mk H
                    clear H
                    go_wp2
                    go_roundg k5
                    case measure => have := HJ3.out; have := HK2.out; have := HK3.out; have := HK4.out; have := HK5.out; omega
                    case rel => exact ⟨(wrap64 (x58_4 + 1)), tS_, H', ⟨by have := HJ3.out; have := HK2.out; have := HK3.out; have := HK4.out; have := HK5.out; omega⟩, ⟨by (with_reducible repeat (first | apply Kd.R_alloc | apply Kd.R_drewN | apply Kd.R_drew)); exact Kd.R_mono HO_56.out (fun _ hk => trivial)⟩, ⟨by (with_reducible repeat (first | apply Kd.R_alloc | apply Kd.R_drewN | apply Kd.R_drew)); exact Kd.R_mono HO_477002.out (fun _ hk => trivial)⟩, ⟨dB_ BK471⟩, ⟨dB_ BK476⟩, ⟨dL2_ HB GE471 GE476⟩⟩
               ·rw [if_neg c34] at H
                exact absurd H (by simp)
              ·rw [if_neg c33] at H
               exact absurd H (by simp)
             ·rw [if_neg c32] at H
              have c32b0 : decide (x58_4 < (x477002_3.length : Int)) = false := decide_eq_false c32
              clear c32
              simp only [Option.some.injEq, Prod.mk.injEq] at H
              obtain ⟨rfl, rfl, rfl, rfl⟩ := H
              have hnb54 := NB476_471.out
              have hnc54 := NB471_476.out
              obtain ⟨hcz55_0, hcz55_1, hcz55_2, hfz55_0, hfz55_1, hfz55_2⟩ := cs3_ BK476.out
              obtain ⟨hcz56_0, hcz56_1, hcz56_2, hfz56_0, hfz56_1, hfz56_2⟩ := cs3_ BK471.out
              go_wp2
              (try simp only [Exit.noGoto_ret])
              refine bodyPost_ret (results_ct rfl _ _ gb471 24 #[.int .i64 a0, .int .i64 a1, .slice Ao31 x477002_3.length co31] (0, 0) _ rfl (by (with_reducible repeat (first | refine blk_drewN ?_ _ | refine blk_drew ?_ | refine blk_alloc ?_ _)); refine blk_put (cs := #[.int .i64 a0, .int .i64 a1, .slice none 0 0]) ?_ 2 _ rfl; (with_reducible repeat (first | refine blk_drewN ?_ _ | refine blk_drew ?_ | refine blk_alloc ?_ _)); refine blk_put (cs := #[.int .i64 a0, .int .i64 x472001_3, .slice none 0 0]) ?_ 1 _ rfl; (with_reducible repeat (first | refine blk_drewN ?_ _ | refine blk_drew ?_ | refine blk_alloc ?_ _)); refine blk_put (cs := #[.int .i64 x472000_3, .int .i64 x472001_3, .slice none 0 0]) ?_ 0 _ rfl; (with_reducible repeat (first | refine blk_drewN ?_ _ | refine blk_drew ?_ | refine blk_alloc ?_ _)); exact BK471.out) Try.underlying24 rfl (by kernel_rfl)) rfl ?_
              exact ⟨_, tE_, by (with_reducible repeat (first | apply Kd.R_alloc | apply Kd.R_drewN | apply Kd.R_drew)); exact Kd.R_mono (Kd.R_far (p := ⟨gb471, 2, none⟩) (Kd.R_far (p := ⟨gb471, 1, none⟩) (Kd.R_far (p := ⟨gb471, 0, none⟩) (Kd.R_types HO_477002.out BK471.out (by decide)) (fun _ hk => hk.2) (.int .i64 a0)) (fun _ hk => hk.2) (.int .i64 a1)) (fun _ hk => hk.2) (.slice Ao31 x477002_3.length co31)) (fun _ hk => trivial), dL2_ HB GE471 GE476⟩
     ·rw [if_neg c11] at H
      exact absurd H (by simp)
    ·rw [if_neg c10] at H
     exact absurd H (by simp)

end Go.Proofs.Ytchflcnegpnkkaa.Q
