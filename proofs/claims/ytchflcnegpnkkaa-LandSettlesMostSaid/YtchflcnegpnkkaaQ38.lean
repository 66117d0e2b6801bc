-- PRINTED by print.py (a twelfth state) out of the translation. Not trusted: Lean checks it.
import Derived.Test.YtchflcnegpnkkaaPrs
import Derived.Test.YtchflcnegpnkkaaQ0
namespace Go.Proofs.Ytchflcnegpnkkaa.Q
open Go.RowKit Go.Proofs.YtchflcnegpnkkaaPrs Go.Proofs.YtchflcnegpnkkaaOwn Go.Proofs.YtchflcnegpnkkaaW.PrintWords Go.Proofs.YtchflcnegpnkkaaW.PrintLast Go.Proofs.YtchflcnegpnkkaaW.PrintMore
attribute [local go_sem] max2_int min2_int max_two min_two max_three min_three max_four min_four   -- for this text's walks alone
set_option linter.unusedVariables false
set_option linter.unusedSimpArgs false

/-! ### land_beside: function 55 -/
mutual
def land_beside.j0 : Nat → Int → Int → Int → List Int → Option (List Int)
  | 0, _, _, _, _ => none
  | k + 1, x0, x1, x2, x7 => if x1 = 0 then (none) else (if (Int.tmod x0 x1) > 0 then (if x7.length < 17592186044416 then (land_beside.j1 k x0 x1 x2 (x7 ++ [wrap64 (x0 - 1)])) else (none)) else (land_beside.j1 k x0 x1 x2 x7))
def land_beside.j1 : Nat → Int → Int → Int → List Int → Option (List Int)
  | 0, _, _, _, _ => none
  | k + 1, x0, x1, x2, x7 => if x1 = 0 then (none) else (if (wrap64 ((wrap64 (Int.tdiv x0 x1)) + 1)) < x2 then (if x7.length < 17592186044416 then (land_beside.j2 k x0 x1 (x7 ++ [wrap64 (x0 + x1)])) else (none)) else (land_beside.j2 k x0 x1 x7))
def land_beside.j2 : Nat → Int → Int → List Int → Option (List Int)
  | 0, _, _, _ => none
  | k + 1, x0, x1, x7 => if x1 = 0 then (none) else (if (wrap64 (Int.tdiv x0 x1)) > 0 then (if x7.length < 17592186044416 then (some (x7 ++ [wrap64 (x0 - x1)])) else (none)) else (some x7))
end
def land_beside.f (k : Nat) (a0 : Int) (a1 : Int) (a2 : Int) : Option (List Int) := if a1 = 0 then (none) else (if (wrap64 ((Int.tmod a0 a1) + 1)) < a1 then (if ([] : List Int).length < 17592186044416 then (land_beside.j0 k a0 a1 a2 (([] : List Int) ++ [wrap64 (a0 + 1)])) else (none)) else (land_beside.j0 k a0 a1 a2 ([] : List Int)))
theorem land_beside.mono_l : ∀ k, (∀ y0 y1 y2 y3, LeO (land_beside.j0 k y0 y1 y2 y3) (land_beside.j0 (k + 1) y0 y1 y2 y3)) ∧ (∀ y0 y1 y2 y3, LeO (land_beside.j1 k y0 y1 y2 y3) (land_beside.j1 (k + 1) y0 y1 y2 y3)) ∧ (∀ y0 y1 y2, LeO (land_beside.j2 k y0 y1 y2) (land_beside.j2 (k + 1) y0 y1 y2))
  | 0 => ⟨fun _ _ _ _ r h => by simp [land_beside.j0] at h, fun _ _ _ _ r h => by simp [land_beside.j1] at h, fun _ _ _ r h => by simp [land_beside.j2] at h⟩
  | k + 1 => by
    obtain ⟨ih0, ih1, ih2⟩ := land_beside.mono_l k
    refine ⟨?_, ?_, ?_⟩
    · intro y0 y1 y2 y3
      unfold land_beside.j0
      repeat' first
      | (with_reducible first | exact ih0 _ _ _ _ | exact ih1 _ _ _ _ | exact ih2 _ _ _ | exact LeO.refl _ | exact LeO.none _ | refine LeO.ite ?_ ?_ | refine LeO.bind ?_ (fun _ => ?_))
      | exact ih0 _ _ _ _
      | exact ih1 _ _ _ _
      | exact ih2 _ _ _
      | exact LeO.none _
      | refine LeO.ite ?_ ?_
      | refine LeO.bind ?_ (fun _ => ?_)
    · intro y0 y1 y2 y3
      unfold land_beside.j1
      repeat' first
      | (with_reducible first | exact ih0 _ _ _ _ | exact ih1 _ _ _ _ | exact ih2 _ _ _ | exact LeO.refl _ | exact LeO.none _ | refine LeO.ite ?_ ?_ | refine LeO.bind ?_ (fun _ => ?_))
      | exact ih0 _ _ _ _
      | exact ih1 _ _ _ _
      | exact ih2 _ _ _
      | exact LeO.none _
      | refine LeO.ite ?_ ?_
      | refine LeO.bind ?_ (fun _ => ?_)
    · intro y0 y1 y2
      unfold land_beside.j2
      repeat' first
      | (with_reducible first | exact ih0 _ _ _ _ | exact ih1 _ _ _ _ | exact ih2 _ _ _ | exact LeO.refl _ | exact LeO.none _ | refine LeO.ite ?_ ?_ | refine LeO.bind ?_ (fun _ => ?_))
      | exact ih0 _ _ _ _
      | exact ih1 _ _ _ _
      | exact ih2 _ _ _
      | exact LeO.none _
      | refine LeO.ite ?_ ?_
      | refine LeO.bind ?_ (fun _ => ?_)
theorem land_beside.mono : ∀ a0 a1 a2 k, LeO (land_beside.f k a0 a1 a2) (land_beside.f (k + 1) a0 a1 a2) := by
  intro a0 a1 a2 k
  obtain ⟨ih0, ih1, ih2⟩ := land_beside.mono_l k
  unfold land_beside.f
  repeat' first
      | (with_reducible first | exact ih0 _ _ _ _ | exact ih1 _ _ _ _ | exact ih2 _ _ _ | exact LeO.refl _ | exact LeO.none _ | refine LeO.ite ?_ ?_ | refine LeO.bind ?_ (fun _ => ?_))
      | exact ih0 _ _ _ _
      | exact ih1 _ _ _ _
      | exact ih2 _ _ _
      | exact LeO.none _
      | refine LeO.ite ?_ ?_
      | refine LeO.bind ?_ (fun _ => ?_)
set_option maxHeartbeats 8000000 in
set_option maxRecDepth 100000 in
theorem land_beside.calls (k : Nat) (a0 : Int) (a1 : Int) (a2 : Int) (r : List Int) (w : World) (h : land_beside.f k a0 a1 a2 = some r) :
    Calls Try.prog 55 #[.int .i64 a0, .int .i64 a1, .int .i64 a2] w fun e w' => ∃ v0_ : Value, e = .returned (v0_) ∧ Kd.R (Kd.int .i64) 3 w' w.heap.size (fun _ => True) v0_ r ∧ Below w.heap.size w w' := by
 have HB := Aside0.mk (Below.refl w.heap.size w)
 have H : (if a1 = 0 then (none) else (if (wrap64 ((Int.tmod a0 a1) + 1)) < a1 then (if ([] : List Int).length < 17592186044416 then (land_beside.j0 k a0 a1 a2 (([] : List Int) ++ [wrap64 (a0 + 1)])) else (none)) else (land_beside.j0 k a0 a1 a2 ([] : List Int)))) = some r := h
 clear h
 by_cases c4 : a1 = 0
 ·rw [if_pos c4] at H
  exact absurd H (by simp)
 ·rw [if_neg c4] at H
  have c4b0 : (a1 == 0) = false := beq_eq_false_iff_ne.mpr c4
  have c4b1 : (a1 != 0) = true := bne_iff_ne.mpr c4
  have HC5 := Aside0.mk H
  clear H
  go_enter Try.func55, Try.ntmps55
  go_upto_if 13 with (fail)
  go_cut [7] (fun v7 wc => ∃ (kq : Nat) (x7_4 : List Int), Aside0 (land_beside.j0 kq a0 a1 a2 x7_4 = some r) ∧ Aside0 (kq ≤ k) ∧ Aside0 (Kd.R (Kd.int .i64) 3 wc w.heap.size (fun _ => True) v7 x7_4) ∧ Aside0 (Below w.heap.size w wc))
  case first =>
   have H := HC5.out
   clear HC5
   by_cases c6 : (wrap64 ((Int.tmod a0 a1) + 1)) < a1
   ·rw [if_pos c6] at H
    have c6b0 : decide ((wrap64 ((Int.tmod a0 a1) + 1)) < a1) = true := decide_eq_true c6
    clear c6
    (first | rw [c6b0] | (simp only [i64_w, i32_w]; rw [c6b0]) | skip)
    by_cases c7 : ([] : List Int).length < 17592186044416
    ·rw [if_pos c7] at H
     have LMc7 := Aside0.mk c7
     clear c7
     obtain ⟨y459, hy459⟩ : ∃ y_ : List Int, y_ = (([] : List Int) ++ [wrap64 (a0 + 1)]) := ⟨_, rfl⟩
     replace H : (land_beside.j0 k a0 a1 a2 y459) = some r := by first | (rw [hy459]; with_reducible exact H) | (have H2_ := (Option.bind_some _ _).symm.trans H; rw [hy459]; with_reducible exact H2_) | (have H2_ := (Option.bind_some _ _).symm.trans H; with_reducible exact H2_) | with_reducible exact H | (rw [hy459]; exact H) | exact H
     have Ny459 := Aside0.mk hy459
     clear hy459
     have H' := Aside0.mk H
     clear H
     go_wp2_with (first | ((with_reducible refine gate_builtin (b := .append) (xs := #[.tmp 14, .tmp 17]) rfl ?_); at_builtin; refine Kd.R_append (Kd.int .i64) (w0 := w) w.heap.size rfl (.tmp 14) (.tmp 17) 22 3 (.int .i64 0) 8 rfl Try.underlying22 info3 rfl (by decide) (by omega) (.slice none 0 0) ([] : List Int) (wrap64 (a0 + 1)) [.int .i64 (wrap64 (a0 + 1))] (fun _ => True) (fun _ => False) rfl rfl ?aP (fun _ hk => hk.elim) ?aF ?aO ?aB ?aS ?aL ?_; (case aP => exact rfl); (case aB => exact (dL_ HB)); (case aF => exact (fun _ _ => trivial)); (case aO => exact ((Kd.R_nil _ _ _ _ (fun _ => True)))); (case aS => exact (below_size (dL_ HB))); (case aL => have := LMc7.out; omega); intro v460 w8 ho hb hg hat; rw [← Ny459.out] at ho; replace HB := Aside0.mk (hb); have HO461 := Aside0.mk (ho); clear ho hb hg hat))
     go_meet
     case rel => exact ⟨_, (y459), H', ⟨by first | omega | exact Nat.le_refl _⟩, ⟨dR_ HO461⟩, ⟨dL_ HB⟩⟩
    ·rw [if_neg c7] at H
     exact absurd H (by simp)
   ·rw [if_neg c6] at H
    have c6b0 : decide ((wrap64 ((Int.tmod a0 a1) + 1)) < a1) = false := decide_eq_false c6
    clear c6
    (first | rw [c6b0] | (simp only [i64_w, i32_w]; rw [c6b0]) | skip)
    have H' := Aside0.mk H
    clear H
    go_wp2
    go_meet
    case rel => exact ⟨_, (([] : List Int)), H', ⟨by first | omega | exact Nat.le_refl _⟩, ⟨by first | exact Kd.R_nil _ _ _ _ _ | exact Kd.N_nil _ _ _ _ _ | exact Kd.V_nil _ _ _ _ _ | exact Kd.Q_nil _ _ _ _ _ | exact Kd.S_nil _ _ _ _ _⟩, ⟨dL_ HB⟩⟩
  case rest =>
   clear HC5
   try clear c4
   try clear c4b0
   try clear c4b1
   try clear c6
   try clear c7
   obtain ⟨kq, x7_4, HA, HJ4, HO_7, HB⟩ := hcut
   cases kq with
   | zero => exact absurd HA.out (by simp [land_beside.j0])
   | succ kj4 =>
    have H := HA.out
    clear HA
    simp only [land_beside.j0] at H
    by_cases c9 : a1 = 0
    ·rw [if_pos c9] at H
     exact absurd H (by simp)
    ·rw [if_neg c9] at H
     have c9b0 : (a1 == 0) = false := beq_eq_false_iff_ne.mpr c9
     have c9b1 : (a1 != 0) = true := bne_iff_ne.mpr c9
     have HC10 := Aside0.mk H
     clear H
     go_upto_if 22 with (fail)
     go_cut [7] (fun v7 wc => ∃ (kq : Nat) (x7_9 : List Int), Aside0 (land_beside.j1 kq a0 a1 a2 x7_9 = some r) ∧ Aside0 (kq ≤ kj4) ∧ Aside0 (Kd.R (Kd.int .i64) 3 wc w.heap.size (fun _ => True) v7 x7_9) ∧ Aside0 (Below w.heap.size w wc))
     case first =>
      have H := HC10.out
      clear HC10
      by_cases c11 : (Int.tmod a0 a1) > 0
      ·rw [if_pos c11] at H
       have c11b0 : decide (0 < (Int.tmod a0 a1)) = true := decide_eq_true c11
       clear c11
       (first | rw [c11b0] | (simp only [i64_w, i32_w]; rw [c11b0]) | skip)
       by_cases c12 : x7_4.length < 17592186044416
       ·rw [if_pos c12] at H
        have LMc12 := Aside0.mk c12
        clear c12
        obtain ⟨y462, hy462⟩ : ∃ y_ : List Int, y_ = (x7_4 ++ [wrap64 (a0 - 1)]) := ⟨_, rfl⟩
        replace H : (land_beside.j1 kj4 a0 a1 a2 y462) = some r := by first | (rw [hy462]; with_reducible exact H) | (have H2_ := (Option.bind_some _ _).symm.trans H; rw [hy462]; with_reducible exact H2_) | (have H2_ := (Option.bind_some _ _).symm.trans H; with_reducible exact H2_) | with_reducible exact H | (rw [hy462]; exact H) | exact H
        have Ny462 := Aside0.mk hy462
        clear hy462
        have H' := Aside0.mk H
        clear H
        go_wp2_with (first | ((with_reducible refine gate_builtin (b := .append) (xs := #[.tmp 23, .tmp 26]) rfl ?_); at_builtin; refine Kd.R_append (Kd.int .i64) (w0 := w) w.heap.size rfl (.tmp 23) (.tmp 26) 22 3 (.int .i64 0) 8 rfl Try.underlying22 info3 rfl (by decide) (by omega) u7 x7_4 (wrap64 (a0 - 1)) [.int .i64 (wrap64 (a0 - 1))] (fun _ => True) (fun _ => False) rfl rfl ?aP (fun _ hk => hk.elim) ?aF ?aO ?aB ?aS ?aL ?_; (case aP => exact rfl); (case aB => exact (dL_ HB)); (case aF => exact (fun _ _ => trivial)); (case aO => exact (dR_ HO_7)); (case aS => exact (below_size (dL_ HB))); (case aL => have := LMc12.out; omega); intro v463 w13 ho hb hg hat; rw [← Ny462.out] at ho; replace HB := Aside0.mk (hb); have HO464 := Aside0.mk (ho); clear HO_7; clear ho hb hg hat))
        go_meet
        case rel => exact ⟨_, (y462), H', ⟨by have := HJ4.out; first | omega | exact Nat.le_refl _⟩, ⟨dR_ HO464⟩, ⟨dL_ HB⟩⟩
       ·rw [if_neg c12] at H
        exact absurd H (by simp)
      ·rw [if_neg c11] at H
       have c11b0 : decide (0 < (Int.tmod a0 a1)) = false := decide_eq_false c11
       clear c11
       (first | rw [c11b0] | (simp only [i64_w, i32_w]; rw [c11b0]) | skip)
       have H' := Aside0.mk H
       clear H
       go_wp2
       go_meet
       case rel => exact ⟨_, (x7_4), H', ⟨by have := HJ4.out; first | omega | exact Nat.le_refl _⟩, ⟨dR_ HO_7⟩, ⟨dL_ HB⟩⟩
     case rest =>
      clear HC10
      try clear c4
      try clear c4b0
      try clear c4b1
      try clear c6
      try clear c7
      try clear c9
      try clear c9b0
      try clear c9b1
      try clear c11
      try clear c12
      obtain ⟨kq, x7_9, HA, HJ9, HO_7, HB⟩ := hcut
      cases kq with
      | zero => exact absurd HA.out (by simp [land_beside.j1])
      | succ kj9 =>
       have H := HA.out
       clear HA
       simp only [land_beside.j1] at H
       by_cases c14 : a1 = 0
       ·rw [if_pos c14] at H
        exact absurd H (by simp)
       ·rw [if_neg c14] at H
        have c14b0 : (a1 == 0) = false := beq_eq_false_iff_ne.mpr c14
        have c14b1 : (a1 != 0) = true := bne_iff_ne.mpr c14
        have HC15 := Aside0.mk H
        clear H
        go_upto_if 33 with (fail)
        go_cut [7] (fun v7 wc => ∃ (kq : Nat) (x7_14 : List Int), Aside0 (land_beside.j2 kq a0 a1 x7_14 = some r) ∧ Aside0 (kq ≤ kj9) ∧ Aside0 (Kd.R (Kd.int .i64) 3 wc w.heap.size (fun _ => True) v7 x7_14) ∧ Aside0 (Below w.heap.size w wc))
        case first =>
         have H := HC15.out
         clear HC15
         by_cases c16 : (wrap64 ((wrap64 (Int.tdiv a0 a1)) + 1)) < a2
         ·rw [if_pos c16] at H
          have c16b0 : decide ((wrap64 ((wrap64 (Int.tdiv a0 a1)) + 1)) < a2) = true := decide_eq_true c16
          clear c16
          (first | rw [c16b0] | (simp only [i64_w, i32_w]; rw [c16b0]) | skip)
          by_cases c17 : x7_9.length < 17592186044416
          ·rw [if_pos c17] at H
           have LMc17 := Aside0.mk c17
           clear c17
           obtain ⟨y465, hy465⟩ : ∃ y_ : List Int, y_ = (x7_9 ++ [wrap64 (a0 + a1)]) := ⟨_, rfl⟩
           replace H : (land_beside.j2 kj9 a0 a1 y465) = some r := by first | (rw [hy465]; with_reducible exact H) | (have H2_ := (Option.bind_some _ _).symm.trans H; rw [hy465]; with_reducible exact H2_) | (have H2_ := (Option.bind_some _ _).symm.trans H; with_reducible exact H2_) | with_reducible exact H | (rw [hy465]; exact H) | exact H
           have Ny465 := Aside0.mk hy465
           clear hy465
           have H' := Aside0.mk H
           clear H
           go_wp2_with (first | ((with_reducible refine gate_builtin (b := .append) (xs := #[.tmp 34, .tmp 38]) rfl ?_); at_builtin; refine Kd.R_append (Kd.int .i64) (w0 := w) w.heap.size rfl (.tmp 34) (.tmp 38) 22 3 (.int .i64 0) 8 rfl Try.underlying22 info3 rfl (by decide) (by omega) u7 x7_9 (wrap64 (a0 + a1)) [.int .i64 (wrap64 (a0 + a1))] (fun _ => True) (fun _ => False) rfl rfl ?aP (fun _ hk => hk.elim) ?aF ?aO ?aB ?aS ?aL ?_; (case aP => exact rfl); (case aB => exact (dL_ HB)); (case aF => exact (fun _ _ => trivial)); (case aO => exact (dR_ HO_7)); (case aS => exact (below_size (dL_ HB))); (case aL => have := LMc17.out; omega); intro v466 w18 ho hb hg hat; rw [← Ny465.out] at ho; replace HB := Aside0.mk (hb); have HO467 := Aside0.mk (ho); clear HO_7; clear ho hb hg hat))
           go_meet
           case rel => exact ⟨_, (y465), H', ⟨by have := HJ4.out; have := HJ9.out; first | omega | exact Nat.le_refl _⟩, ⟨dR_ HO467⟩, ⟨dL_ HB⟩⟩
          ·rw [if_neg c17] at H
           exact absurd H (by simp)
         ·rw [if_neg c16] at H
          have c16b0 : decide ((wrap64 ((wrap64 (Int.tdiv a0 a1)) + 1)) < a2) = false := decide_eq_false c16
          clear c16
          (first | rw [c16b0] | (simp only [i64_w, i32_w]; rw [c16b0]) | skip)
          have H' := Aside0.mk H
          clear H
          go_wp2
          go_meet
          case rel => exact ⟨_, (x7_9), H', ⟨by have := HJ4.out; have := HJ9.out; first | omega | exact Nat.le_refl _⟩, ⟨dR_ HO_7⟩, ⟨dL_ HB⟩⟩
        case rest =>
         clear HC15
         try clear c4
         try clear c4b0
         try clear c4b1
         try clear c6
         try clear c7
         try clear c9
         try clear c9b0
         try clear c9b1
         try clear c11
         try clear c12
         try clear c14
         try clear c14b0
         try clear c14b1
         try clear c16
         try clear c17
         obtain ⟨kq, x7_14, HA, HJ14, HO_7, HB⟩ := hcut
         cases kq with
         | zero => exact absurd HA.out (by simp [land_beside.j2])
         | succ kj14 =>
          have H := HA.out
          clear HA
          simp only [land_beside.j2] at H
          by_cases c19 : a1 = 0
          ·rw [if_pos c19] at H
           exact absurd H (by simp)
          ·rw [if_neg c19] at H
           have c19b0 : (a1 == 0) = false := beq_eq_false_iff_ne.mpr c19
           have c19b1 : (a1 != 0) = true := bne_iff_ne.mpr c19
           by_cases c20 : (wrap64 (Int.tdiv a0 a1)) > 0
           ·rw [if_pos c20] at H
            have c20b0 : decide (0 < (wrap64 (Int.tdiv a0 a1))) = true := decide_eq_true c20
            clear c20
            by_cases c21 : x7_14.length < 17592186044416
            ·rw [if_pos c21] at H
             have LMc21 := Aside0.mk c21
             clear c21
             obtain ⟨y468, hy468⟩ : ∃ y_ : List Int, y_ = (x7_14 ++ [wrap64 (a0 - a1)]) := ⟨_, rfl⟩
             replace H : (some y468) = some r := by first | (rw [hy468]; with_reducible exact H) | (have H2_ := (Option.bind_some _ _).symm.trans H; rw [hy468]; with_reducible exact H2_) | (have H2_ := (Option.bind_some _ _).symm.trans H; with_reducible exact H2_) | with_reducible exact H | (rw [hy468]; exact H) | exact H
             have Ny468 := Aside0.mk hy468
             clear hy468
             obtain rfl := Option.some.inj H
             go_wp2_with (first | ((with_reducible refine gate_builtin (b := .append) (xs := #[.tmp 44, .tmp 48]) rfl ?_); at_builtin; refine Kd.R_append (Kd.int .i64) (w0 := w) w.heap.size rfl (.tmp 44) (.tmp 48) 22 3 (.int .i64 0) 8 rfl Try.underlying22 info3 rfl (by decide) (by omega) u7 x7_14 (wrap64 (a0 - a1)) [.int .i64 (wrap64 (a0 - a1))] (fun _ => True) (fun _ => False) rfl rfl ?aP (fun _ hk => hk.elim) ?aF ?aO ?aB ?aS ?aL ?_; (case aP => exact rfl); (case aB => exact (dL_ HB)); (case aF => exact (fun _ _ => trivial)); (case aO => exact (dR_ HO_7)); (case aS => exact (below_size (dL_ HB))); (case aL => have := LMc21.out; omega); intro v469 w22 ho hb hg hat; rw [← Ny468.out] at ho; replace HB := Aside0.mk (hb); have HO470 := Aside0.mk (ho); clear HO_7; clear ho hb hg hat))
             go_ret
             exact ⟨_, tE_, dR_ HO470, dL_ HB⟩
            ·rw [if_neg c21] at H
             exact absurd H (by simp)
           ·rw [if_neg c20] at H
            have c20b0 : decide (0 < (wrap64 (Int.tdiv a0 a1))) = false := decide_eq_false c20
            clear c20
            obtain rfl := Option.some.inj H
            go_wp2
            go_ret
            exact ⟨_, tE_, dR_ HO_7, dL_ HB⟩

end Go.Proofs.Ytchflcnegpnkkaa.Q
