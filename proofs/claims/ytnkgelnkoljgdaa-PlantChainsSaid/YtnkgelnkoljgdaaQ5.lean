-- PRINTED by print.py (a twelfth state) out of the translation. Not trusted: Lean checks it.
import Derived.Test.YtnkgelnkoljgdaaPrs
import Derived.Test.YtnkgelnkoljgdaaQ0
import Derived.Test.YtnkgelnkoljgdaaQ4
namespace Go.Proofs.Ytnkgelnkoljgdaa.Q
open Go.RowKit Go.Proofs.YtnkgelnkoljgdaaPrs Go.Proofs.YtnkgelnkoljgdaaOwn Go.Proofs.YtnkgelnkoljgdaaW.PrintWords Go.Proofs.YtnkgelnkoljgdaaW.PrintLast Go.Proofs.YtnkgelnkoljgdaaW.PrintMore
open List renaming setIfInBounds_toArray → sI_, set_cons_zero → s0_, set_cons_succ → sS_
attribute [local go_sem] max2_int min2_int max_two min_two max_three min_three max_four min_four   -- for this text's walks alone
set_option linter.unusedVariables false
set_option linter.unusedSimpArgs false

/-! ### plant_New: function 17 -/
mutual
def plant_New.j0 : Nat → List (S39) → Int → Int → Bool → Option (Int × Int × Int × List Int × List Int × List Int × List Int × Int × Int × Bool × Int)
  | 0, _, _, _, _ => none
  | k + 1, x0, x1, x2, x23 => if x23 = true then (some (0, 0, 0, ([] : List Int), ([] : List Int), ([] : List Int), ([] : List Int), 0, 0, false, 2)) else (if x2 < 0 then (plant_New.j1 k x0 x1 x2 true) else (plant_New.j1 k x0 x1 x2 (decide (x2 > 1000000))))
def plant_New.j1 : Nat → List (S39) → Int → Int → Bool → Option (Int × Int × Int × List Int × List Int × List Int × List Int × Int × Int × Bool × Int)
  | 0, _, _, _, _ => none
  | k + 1, x0, x1, x2, x30 => if x30 = true then (some (0, 0, 0, ([] : List Int), ([] : List Int), ([] : List Int), ([] : List Int), 0, 0, false, 1)) else (if 0 ≤ x1 then (if x1 < (x0.length : Int) then (if 0 ≤ (((rd_T39 x0 x1).f2).length : Int) then (if ((((rd_T39 x0 x1).f2).length : Int) : Int).toNat ≤ 35184372088832 then (some (x1, x2, 16, (List.replicate ((((rd_T39 x0 x1).f2).length : Int) : Int).toNat 0), (List.replicate ((((rd_T39 x0 x1).f2).length : Int) : Int).toNat 0), (List.replicate ((((rd_T39 x0 x1).f2).length : Int) : Int).toNat 0), (List.replicate ((((rd_T39 x0 x1).f2).length : Int) : Int).toNat 0), 0, 0, true, 0)) else (none)) else (none)) else (none)) else (none))
end
def plant_New.f (k : Nat) (l0 : List (S39)) (a1 : Int) (a2 : Int) : Option (Int × Int × Int × List Int × List Int × List Int × List Int × Int × Int × Bool × Int) := (plant_ValidateKinds.f k l0).bind fun t112 => (if t112 = 0 then (if a1 < 0 then (plant_New.j0 k l0 a1 a2 true) else (plant_New.j0 k l0 a1 a2 (decide (a1 ≥ (l0.length : Int))))) else (some (0, 0, 0, ([] : List Int), ([] : List Int), ([] : List Int), ([] : List Int), 0, 0, false, t112)))
theorem plant_New.mono_l : ∀ k, (∀ y0 y1 y2 y3, LeO (plant_New.j0 k y0 y1 y2 y3) (plant_New.j0 (k + 1) y0 y1 y2 y3)) ∧ (∀ y0 y1 y2 y3, LeO (plant_New.j1 k y0 y1 y2 y3) (plant_New.j1 (k + 1) y0 y1 y2 y3))
  | 0 => ⟨fun _ _ _ _ r h => by simp [plant_New.j0] at h, fun _ _ _ _ r h => by simp [plant_New.j1] at h⟩
  | k + 1 => by
    obtain ⟨ih0, ih1⟩ := plant_New.mono_l k
    refine ⟨?_, ?_⟩
    · intro y0 y1 y2 y3
      unfold plant_New.j0
      repeat' first
      | (with_reducible first | exact ih0 _ _ _ _ | exact ih1 _ _ _ _ | exact plant_ValidateKinds.mono _ _ | exact LeO.refl _ | exact LeO.none _ | refine LeO.ite ?_ ?_ | refine LeO.bind ?_ (fun _ => ?_))
      | exact ih0 _ _ _ _
      | exact ih1 _ _ _ _
      | exact plant_ValidateKinds.mono _ _
      | exact LeO.none _
      | refine LeO.ite ?_ ?_
      | refine LeO.bind ?_ (fun _ => ?_)
    · intro y0 y1 y2 y3
      unfold plant_New.j1
      repeat' first
      | (with_reducible first | exact ih0 _ _ _ _ | exact ih1 _ _ _ _ | exact plant_ValidateKinds.mono _ _ | exact LeO.refl _ | exact LeO.none _ | refine LeO.ite ?_ ?_ | refine LeO.bind ?_ (fun _ => ?_))
      | exact ih0 _ _ _ _
      | exact ih1 _ _ _ _
      | exact plant_ValidateKinds.mono _ _
      | exact LeO.none _
      | refine LeO.ite ?_ ?_
      | refine LeO.bind ?_ (fun _ => ?_)
theorem plant_New.mono : ∀ a0 a1 a2 k, LeO (plant_New.f k a0 a1 a2) (plant_New.f (k + 1) a0 a1 a2) := by
  intro a0 a1 a2 k
  obtain ⟨ih0, ih1⟩ := plant_New.mono_l k
  unfold plant_New.f
  repeat' first
      | (with_reducible first | exact ih0 _ _ _ _ | exact ih1 _ _ _ _ | exact plant_ValidateKinds.mono _ _ | exact LeO.refl _ | exact LeO.none _ | refine LeO.ite ?_ ?_ | refine LeO.bind ?_ (fun _ => ?_))
      | exact ih0 _ _ _ _
      | exact ih1 _ _ _ _
      | exact plant_ValidateKinds.mono _ _
      | exact LeO.none _
      | refine LeO.ite ?_ ?_
      | refine LeO.bind ?_ (fun _ => ?_)
def plant_New.T9 : Bool × List (List Nat × List Nat) := (true, [([], []), ([], []), ([], []), ([2, 2], [2]), ([], []), ([4, 4], [4]), ([], []), ([6, 6], [6]), ([], []), ([8, 8], [8]), ([0, 1, 3, 5, 7, 9], [0, 1, 3, 5, 7, 9]), ([10, 0, 1, 2, 3, 4, 5, 6, 7, 8, 9, 10], [10]), ([11, 0, 1, 2, 3, 4, 5, 6, 7, 8, 9, 10, 11], [])])
def plant_New.B9 : List Nat := [0, 0, 0, 4, 0, 16, 0, 64, 0, 256, 1023, 2047, 4095]
theorem plant_New.tab9 : rtab .any (opsOf Try.f17 9) = plant_New.T9 := by kernel_rfl
theorem plant_New.bits9 : waitsOk plant_New.T9.2 plant_New.B9 = true := by kernel_rfl
set_option maxHeartbeats 8000000 in
set_option maxRecDepth 100000 in
theorem plant_New.calls (k : Nat) (A0 : Option Addr) (c0 : Nat) (l0 : List (S39)) (a1 : Int) (a2 : Int) (r1 : Int) (r2 : Int) (r3 : Int) (r4 : List Int) (r5 : List Int) (r6 : List Int) (r7 : List Int) (r8 : Int) (r9 : Int) (r10 : Bool) (r11 : Int) (w : World) (hr0 : Kd.C k39 w A0 l0.length l0) (hc0 : l0.length ≤ c0) (h : plant_New.f k l0 a1 a2 = some (r1, r2, r3, r4, r5, r6, r7, r8, r9, r10, r11)) :
    Calls Try.prog 17 #[.slice A0 l0.length c0, .int .i64 a1, .int .i64 a2] w fun e w' => ∃ v3_ v4_ v5_ v6_ : Value, e = .returned (.tuple #[.agg #[.int .i64 r1, .int .i64 r2, .int .i64 r3, v3_, v4_, v5_, v6_, .int .i64 r8, .int .i64 r9, .bool r10], .int .i64 r11]) ∧ Kd.R (Kd.int .i64) 3 w' w.heap.size (fun k_ => some k_ ≠ (v4_ : Value).ownBlock ∧ some k_ ≠ (v5_ : Value).ownBlock ∧ some k_ ≠ (v6_ : Value).ownBlock) v3_ r4 ∧ Kd.R (Kd.int .i64) 3 w' w.heap.size (fun k_ => some k_ ≠ (v3_ : Value).ownBlock ∧ some k_ ≠ (v5_ : Value).ownBlock ∧ some k_ ≠ (v6_ : Value).ownBlock) v4_ r5 ∧ Kd.R (Kd.int .i64) 3 w' w.heap.size (fun k_ => some k_ ≠ (v3_ : Value).ownBlock ∧ some k_ ≠ (v4_ : Value).ownBlock ∧ some k_ ≠ (v6_ : Value).ownBlock) v5_ r6 ∧ Kd.R (Kd.int .i64) 3 w' w.heap.size (fun k_ => some k_ ≠ (v3_ : Value).ownBlock ∧ some k_ ≠ (v4_ : Value).ownBlock ∧ some k_ ≠ (v5_ : Value).ownBlock) v6_ r7 ∧ Below w.heap.size w w' := by
 have hu25 := Try.underlying25
 have HR0 := Aside0.mk hr0
 have HC0 := Aside0.mk hc0
 clear hr0 hc0
 have HB := Aside0.mk (Below.refl w.heap.size w)
 have H : ((plant_ValidateKinds.f k l0).bind fun t112 => (if t112 = 0 then (if a1 < 0 then (plant_New.j0 k l0 a1 a2 true) else (plant_New.j0 k l0 a1 a2 (decide (a1 ≥ (l0.length : Int))))) else (some (0, 0, 0, ([] : List Int), ([] : List Int), ([] : List Int), ([] : List Int), 0, 0, false, t112)))) = some (r1, r2, r3, r4, r5, r6, r7, r8, r9, r10, r11) := h
 clear h
 replace H := Option.bind_eq_some_iff.mp H
 obtain ⟨t112, A40, H⟩ := H
 replace H : (if t112 = 0 then (if a1 < 0 then (plant_New.j0 k l0 a1 a2 true) else (plant_New.j0 k l0 a1 a2 (decide (a1 ≥ (l0.length : Int))))) else (some (0, 0, 0, ([] : List Int), ([] : List Int), ([] : List Int), ([] : List Int), 0, 0, false, t112))) = some (r1, r2, r3, r4, r5, r6, r7, r8, r9, r10, r11) := H
 have A4 := Aside0.mk A40
 clear A40
 by_cases c5 : t112 = 0
 ·rw [if_pos c5] at H
  have c5b0 : (t112 == 0) = true := beq_iff_eq.mpr c5
  have c5b1 : (t112 != 0) = false := bne_eq_false_iff_eq.mpr c5
  clear c5
  have HC6 := Aside0.mk H
  clear H
  go_enter Try.func17, Try.ntmps17
  go_upto_region 4 with (first | ((with_reducible refine gate_dst (N := 6) rfl ?_); (try (refine gate_guard (by rfl) ?_; dsimp only)); refine box_event ?hg (N := 6) ?hd (cs := #[.int .i64 0, .int .i64 0, .int .i64 0, .slice none 0 0, .slice none 0 0, .slice none 0 0, .slice none 0 0, .int .i64 0, .int .i64 0, .bool false]) (t := 25) ?hr ?_; (case hd => rfl); (case hg => rfl); (case hr => first | (go_simp; done) | (go_simp; rfl)); intro gb111 hg w7 hbox hb; have BK111 := Aside0.mk (hbox); have GW111 := Aside0.mk ((dS_ hg (dL_ HB) : w.heap.size ≤ gb111)); have GE111 := Aside0.mk ((dS_ hg (dL_ HB) : w.heap.size ≤ gb111)); replace HB := Aside0.mk (below_step (dL_ HB) hb); clear hb hbox hg) | ((with_reducible refine gate_callee (f := 33) rfl ?_); refine goesL_ (some 11) rfl rfl Try.func33 (by kernel_rfl) rfl #[.slice A0 l0.length c0] rfl tA_ ?_; (with_reducible refine (plant_ValidateKinds.calls k _ _ l0 t112 _ ?side1 ?side2 A4.out).mono ?_); (case side1 => exact dC_ HR0 HB); (case side2 => exact HC0.out); rintro e w8 ⟨rfl, hb⟩; refine ⟨_, rfl, ?_⟩; replace BK111 := Aside0.mk (blk_below (g := gb111) (o := .cells #[.int .i64 0, .int .i64 0, .int .i64 0, .slice none 0 0, .slice none 0 0, .slice none 0 0, .slice none 0 0, .int .i64 0, .int .i64 0, .bool false] 25 (0, 0)) (dB_ BK111) hb); replace HB := Aside0.mk (below_step (dL1_ HB GE111) hb)))
  (try simp only [Act.put, sI_, s0_, sS_])
  go_cut [23] (fun v23 wc => ∃ (kq : Nat) (x23_5 : Bool), v23 = .bool x23_5 ∧ Aside0 (plant_New.j0 kq l0 a1 a2 x23_5 = some (r1, r2, r3, r4, r5, r6, r7, r8, r9, r10, r11)) ∧ Aside0 (kq ≤ k) ∧ Aside0 (wc.heap[gb111]? = some (.cells #[.int .i64 0, .int .i64 0, .int .i64 0, (.slice none 0 0), (.slice none 0 0), (.slice none 0 0), (.slice none 0 0), .int .i64 0, .int .i64 0, .bool false] 25 (0, 0))) ∧ Aside0 (Below w.heap.size w wc))
  case first =>
   have H := HC6.out
   clear HC6
   by_cases c9 : a1 < 0
   ·rw [if_pos c9] at H
    have c9b0 : decide (a1 < 0) = true := decide_eq_true c9
    clear c9
    (first | rw [c9b0] | (simp only [i64_w, i32_w]; rw [c9b0]) | skip)
    have H' := Aside0.mk H
    clear H
    go_wp2
    go_meet
    case rel => exact ⟨_, (true), tS_, H', ⟨by first | omega | exact Nat.le_refl _⟩, ⟨dB_ BK111⟩, ⟨dL1_ HB GE111⟩⟩
   ·rw [if_neg c9] at H
    have c9b0 : decide (a1 < 0) = false := decide_eq_false c9
    clear c9
    (first | rw [c9b0] | (simp only [i64_w, i32_w]; rw [c9b0]) | skip)
    have H' := Aside0.mk H
    clear H
    go_wp2
    go_meet
    case rel => exact ⟨_, (decide (a1 ≥ (l0.length : Int))), tS_, H', ⟨by first | omega | exact Nat.le_refl _⟩, ⟨dB_ BK111⟩, ⟨dL1_ HB GE111⟩⟩
  case rest =>
   clear HC6
   try clear c5
   try clear c5b0
   try clear c5b1
   try clear c9
   obtain ⟨kq, x23_5, rfl, HA, HJ5, BK111, HB⟩ := hcut
   cases kq with
   | zero => exact absurd HA.out (by simp [plant_New.j0])
   | succ kj5 =>
    have H := HA.out
    clear HA
    simp only [plant_New.j0] at H
    by_cases c10 : x23_5 = true
    ·subst c10
     have H1 : (some (0, 0, 0, ([] : List Int), ([] : List Int), ([] : List Int), ([] : List Int), 0, 0, false, 2)) = some (r1, r2, r3, r4, r5, r6, r7, r8, r9, r10, r11) := by rw [if_pos rfl] at H; exact H
     clear H
     have H := H1
     clear H1
     simp only [Option.some.injEq, Prod.mk.injEq] at H
     obtain ⟨rfl, rfl, rfl, rfl, rfl, rfl, rfl, rfl, rfl, rfl, rfl⟩ := H
     obtain ⟨hcz11_0, hcz11_1, hcz11_2, hcz11_3, hcz11_4, hcz11_5, hcz11_6, hcz11_7, hcz11_8, hcz11_9, hfz11_0, hfz11_1, hfz11_2, hfz11_3, hfz11_4, hfz11_5, hfz11_6, hfz11_7, hfz11_8, hfz11_9⟩ := cs10_ BK111.out
     go_wp2
     refine bodyPost_ret (results_ct rfl _ _ gb111 25 #[.int .i64 0, .int .i64 0, .int .i64 0, .slice none 0 0, .slice none 0 0, .slice none 0 0, .slice none 0 0, .int .i64 0, .int .i64 0, .bool false] (0, 0) _ rfl (dP10_ BK111) Try.underlying25 rfl (by kernel_rfl)) rfl ?_
     exact ⟨_, _, _, _, tE_, by first | exact Kd.R_nil _ _ _ _ _ | exact Kd.N_nil _ _ _ _ _ | exact Kd.V_nil _ _ _ _ _ | exact Kd.Q_nil _ _ _ _ _ | exact Kd.S_nil _ _ _ _ _, by first | exact Kd.R_nil _ _ _ _ _ | exact Kd.N_nil _ _ _ _ _ | exact Kd.V_nil _ _ _ _ _ | exact Kd.Q_nil _ _ _ _ _ | exact Kd.S_nil _ _ _ _ _, by first | exact Kd.R_nil _ _ _ _ _ | exact Kd.N_nil _ _ _ _ _ | exact Kd.V_nil _ _ _ _ _ | exact Kd.Q_nil _ _ _ _ _ | exact Kd.S_nil _ _ _ _ _, by first | exact Kd.R_nil _ _ _ _ _ | exact Kd.N_nil _ _ _ _ _ | exact Kd.V_nil _ _ _ _ _ | exact Kd.Q_nil _ _ _ _ _ | exact Kd.S_nil _ _ _ _ _, dL1_ HB GE111⟩
    ·replace c10 := Bool.eq_false_iff.mpr c10
     subst c10
     have H1 : (if a2 < 0 then (plant_New.j1 kj5 l0 a1 a2 true) else (plant_New.j1 kj5 l0 a1 a2 (decide (a2 > 1000000)))) = some (r1, r2, r3, r4, r5, r6, r7, r8, r9, r10, r11) := by rw [if_neg (show ¬ (false = true) by decide)] at H; exact H
     clear H
     have H := H1
     clear H1
     have HC12 := Aside0.mk H
     clear H
     go_upto_region 6 with (fail)
     go_cut [30] (fun v30 wc => ∃ (kq : Nat) (x30_11 : Bool), v30 = .bool x30_11 ∧ Aside0 (plant_New.j1 kq l0 a1 a2 x30_11 = some (r1, r2, r3, r4, r5, r6, r7, r8, r9, r10, r11)) ∧ Aside0 (kq ≤ kj5) ∧ Aside0 (wc.heap[gb111]? = some (.cells #[.int .i64 0, .int .i64 0, .int .i64 0, (.slice none 0 0), (.slice none 0 0), (.slice none 0 0), (.slice none 0 0), .int .i64 0, .int .i64 0, .bool false] 25 (0, 0))) ∧ Aside0 (Below w.heap.size w wc))
     case first =>
      have H := HC12.out
      clear HC12
      by_cases c13 : a2 < 0
      ·rw [if_pos c13] at H
       have c13b0 : decide (a2 < 0) = true := decide_eq_true c13
       clear c13
       (first | rw [c13b0] | (simp only [i64_w, i32_w]; rw [c13b0]) | skip)
       have H' := Aside0.mk H
       clear H
       go_wp2
       go_meet
       case rel => exact ⟨_, (true), tS_, H', ⟨by have := HJ5.out; first | omega | exact Nat.le_refl _⟩, ⟨dB_ BK111⟩, ⟨dL1_ HB GE111⟩⟩
      ·rw [if_neg c13] at H
       have c13b0 : decide (a2 < 0) = false := decide_eq_false c13
       clear c13
       (first | rw [c13b0] | (simp only [i64_w, i32_w]; rw [c13b0]) | skip)
       have H' := Aside0.mk H
       clear H
       go_wp2
       go_meet
       case rel => exact ⟨_, (decide (a2 > 1000000)), tS_, H', ⟨by have := HJ5.out; first | omega | exact Nat.le_refl _⟩, ⟨dB_ BK111⟩, ⟨dL1_ HB GE111⟩⟩
     case rest =>
      clear HC12
      try clear c5
      try clear c5b0
      try clear c5b1
      try clear c9
      try clear c10
      try clear c13
      obtain ⟨kq, x30_11, rfl, HA, HJ11, BK111, HB⟩ := hcut
      cases kq with
      | zero => exact absurd HA.out (by simp [plant_New.j1])
      | succ kj11 =>
       have H := HA.out
       clear HA
       simp only [plant_New.j1] at H
       by_cases c14 : x30_11 = true
       ·subst c14
        have H1 : (some (0, 0, 0, ([] : List Int), ([] : List Int), ([] : List Int), ([] : List Int), 0, 0, false, 1)) = some (r1, r2, r3, r4, r5, r6, r7, r8, r9, r10, r11) := by rw [if_pos rfl] at H; exact H
        clear H
        have H := H1
        clear H1
        simp only [Option.some.injEq, Prod.mk.injEq] at H
        obtain ⟨rfl, rfl, rfl, rfl, rfl, rfl, rfl, rfl, rfl, rfl, rfl⟩ := H
        obtain ⟨hcz15_0, hcz15_1, hcz15_2, hcz15_3, hcz15_4, hcz15_5, hcz15_6, hcz15_7, hcz15_8, hcz15_9, hfz15_0, hfz15_1, hfz15_2, hfz15_3, hfz15_4, hfz15_5, hfz15_6, hfz15_7, hfz15_8, hfz15_9⟩ := cs10_ BK111.out
        go_wp2
        refine bodyPost_ret (results_ct rfl _ _ gb111 25 #[.int .i64 0, .int .i64 0, .int .i64 0, .slice none 0 0, .slice none 0 0, .slice none 0 0, .slice none 0 0, .int .i64 0, .int .i64 0, .bool false] (0, 0) _ rfl (dP10_ BK111) Try.underlying25 rfl (by kernel_rfl)) rfl ?_
        exact ⟨_, _, _, _, tE_, by first | exact Kd.R_nil _ _ _ _ _ | exact Kd.N_nil _ _ _ _ _ | exact Kd.V_nil _ _ _ _ _ | exact Kd.Q_nil _ _ _ _ _ | exact Kd.S_nil _ _ _ _ _, by first | exact Kd.R_nil _ _ _ _ _ | exact Kd.N_nil _ _ _ _ _ | exact Kd.V_nil _ _ _ _ _ | exact Kd.Q_nil _ _ _ _ _ | exact Kd.S_nil _ _ _ _ _, by first | exact Kd.R_nil _ _ _ _ _ | exact Kd.N_nil _ _ _ _ _ | exact Kd.V_nil _ _ _ _ _ | exact Kd.Q_nil _ _ _ _ _ | exact Kd.S_nil _ _ _ _ _, by first | exact Kd.R_nil _ _ _ _ _ | exact Kd.N_nil _ _ _ _ _ | exact Kd.V_nil _ _ _ _ _ | exact Kd.Q_nil _ _ _ _ _ | exact Kd.S_nil _ _ _ _ _, dL1_ HB GE111⟩
       ·replace c14 := Bool.eq_false_iff.mpr c14
        subst c14
        have H1 : (if 0 ≤ a1 then (if a1 < (l0.length : Int) then (if 0 ≤ (((rd_T39 l0 a1).f2).length : Int) then (if ((((rd_T39 l0 a1).f2).length : Int) : Int).toNat ≤ 35184372088832 then (some (a1, a2, 16, (List.replicate ((((rd_T39 l0 a1).f2).length : Int) : Int).toNat 0), (List.replicate ((((rd_T39 l0 a1).f2).length : Int) : Int).toNat 0), (List.replicate ((((rd_T39 l0 a1).f2).length : Int) : Int).toNat 0), (List.replicate ((((rd_T39 l0 a1).f2).length : Int) : Int).toNat 0), 0, 0, true, 0)) else (none)) else (none)) else (none)) else (none)) = some (r1, r2, r3, r4, r5, r6, r7, r8, r9, r10, r11) := by rw [if_neg (show ¬ (false = true) by decide)] at H; exact H
        clear H
        have H := H1
        clear H1
        by_cases c16 : 0 ≤ a1
        ·rw [if_pos c16] at H
         have c16b0 : decide (0 ≤ a1) = true := decide_eq_true c16
         clear c16
         by_cases c17 : a1 < (l0.length : Int)
         ·rw [if_pos c17] at H
          have c17b0 : decide (a1 < (l0.length : Int)) = true := decide_eq_true c17
          clear c17
          by_cases c18 : 0 ≤ (((rd_T39 l0 a1).f2).length : Int)
          ·rw [if_pos c18] at H
           have c18b0 := eq_true c18
           have c18b1 : decide (0 ≤ (((rd_T39 l0 a1).f2).length : Int)) = true := decide_eq_true c18
           clear c18
           by_cases c19 : ((((rd_T39 l0 a1).f2).length : Int) : Int).toNat ≤ 35184372088832
           ·rw [if_pos c19] at H
            have c19b0 := eq_true c19
            have c19b1 : decide (((((rd_T39 l0 a1).f2).length : Int) : Int).toNat ≤ 35184372088832) = true := decide_eq_true c19
            clear c19
            obtain ⟨y114, hy114⟩ : ∃ y_ : List Int, y_ = (List.replicate ((((rd_T39 l0 a1).f2).length : Int) : Int).toNat 0) := ⟨_, rfl⟩
            replace H : (some (a1, a2, 16, y114, (List.replicate ((((rd_T39 l0 a1).f2).length : Int) : Int).toNat 0), (List.replicate ((((rd_T39 l0 a1).f2).length : Int) : Int).toNat 0), (List.replicate ((((rd_T39 l0 a1).f2).length : Int) : Int).toNat 0), 0, 0, true, 0)) = some (r1, r2, r3, r4, r5, r6, r7, r8, r9, r10, r11) := by first | (rw [hy114]; with_reducible exact H) | (have H2_ := (Option.bind_some _ _).symm.trans H; rw [hy114]; with_reducible exact H2_) | (have H2_ := (Option.bind_some _ _).symm.trans H; with_reducible exact H2_) | with_reducible exact H | (rw [hy114]; exact H) | exact H
            have Ny114 := Aside0.mk hy114
            clear hy114
            obtain ⟨y117, hy117⟩ : ∃ y_ : List Int, y_ = (List.replicate ((((rd_T39 l0 a1).f2).length : Int) : Int).toNat 0) := ⟨_, rfl⟩
            replace H : (some (a1, a2, 16, y114, y117, (List.replicate ((((rd_T39 l0 a1).f2).length : Int) : Int).toNat 0), (List.replicate ((((rd_T39 l0 a1).f2).length : Int) : Int).toNat 0), 0, 0, true, 0)) = some (r1, r2, r3, r4, r5, r6, r7, r8, r9, r10, r11) := by first | (rw [hy117]; with_reducible exact H) | (have H2_ := (Option.bind_some _ _).symm.trans H; rw [hy117]; with_reducible exact H2_) | (have H2_ := (Option.bind_some _ _).symm.trans H; with_reducible exact H2_) | with_reducible exact H | (rw [hy117]; exact H) | exact H
            have Ny117 := Aside0.mk hy117
            clear hy117
            obtain ⟨y120, hy120⟩ : ∃ y_ : List Int, y_ = (List.replicate ((((rd_T39 l0 a1).f2).length : Int) : Int).toNat 0) := ⟨_, rfl⟩
            replace H : (some (a1, a2, 16, y114, y117, y120, (List.replicate ((((rd_T39 l0 a1).f2).length : Int) : Int).toNat 0), 0, 0, true, 0)) = some (r1, r2, r3, r4, r5, r6, r7, r8, r9, r10, r11) := by first | (rw [hy120]; with_reducible exact H) | (have H2_ := (Option.bind_some _ _).symm.trans H; rw [hy120]; with_reducible exact H2_) | (have H2_ := (Option.bind_some _ _).symm.trans H; with_reducible exact H2_) | with_reducible exact H | (rw [hy120]; exact H) | exact H
            have Ny120 := Aside0.mk hy120
            clear hy120
            obtain ⟨y123, hy123⟩ : ∃ y_ : List Int, y_ = (List.replicate ((((rd_T39 l0 a1).f2).length : Int) : Int).toNat 0) := ⟨_, rfl⟩
            replace H : (some (a1, a2, 16, y114, y117, y120, y123, 0, 0, true, 0)) = some (r1, r2, r3, r4, r5, r6, r7, r8, r9, r10, r11) := by first | (rw [hy123]; with_reducible exact H) | (have H2_ := (Option.bind_some _ _).symm.trans H; rw [hy123]; with_reducible exact H2_) | (have H2_ := (Option.bind_some _ _).symm.trans H; with_reducible exact H2_) | with_reducible exact H | (rw [hy123]; exact H) | exact H
            have Ny123 := Aside0.mk hy123
            clear hy123
            simp only [Option.some.injEq, Prod.mk.injEq] at H
            obtain ⟨rfl, rfl, rfl, rfl, rfl, rfl, rfl, rfl, rfl, rfl, rfl⟩ := H
            have p113 : 0 ≤ (a1 : Int) := of_decide_eq_true tW_
            have q113 : a1 < (l0.length : Int) := of_decide_eq_true tW_
            obtain ⟨ad113, A113_1, c113_1, A113_2, c113_2, e113, hx113_0, hx113_1, hx113_2, hl113_1, hi113_1, hl113_2, hi113_2⟩ := at_T39 HR0.out a1 p113 q113
            cases e113
            replace hx113_0 := bc_ HB hx113_0
            replace hx113_1 := bc_ HB hx113_1
            replace hx113_2 := bc_ HB hx113_2
            have HR113_1 := Aside0.mk hi113_1
            have HC113_1 := Aside0.mk hl113_1
            clear hi113_1 hl113_1
            have HR113_2 := Aside0.mk hi113_2
            have HC113_2 := Aside0.mk hl113_2
            clear hi113_2 hl113_2
            replace p113 := eq_true p113
            replace q113 := eq_true q113
            try go_wp2
            replace BK111 := Aside0.mk (blk_drew BK111.out)
            replace HB := Aside0.mk (below_drew1 HB.out)
            refine start_ (n := 13) (S := fun w' => True) (ds := []) #[false, false, false, false, false, false, false, false, false, false, false, false, false] (by kernel_rfl) rfl rfl trivial (fun hHeld => ?_); refine with_tabW plant_New.tab9 plant_New.bits9 (fun HT_ HW_ => ?_)
            generalize wc.drew = w20 at BK111 HB hHeld ⊢
            refine pure_ (i := 0) (N := some 38) (v := ?_) (a' := ?_) (bA 1 13) rfl rfl (any_of HT_.out (by kernel_rfl)) (fun _ _ _ h => h) (Or.inl ⟨by rfl, ?_⟩) ?_ ?_; rotate_left; (intro w'; go_simp; with_reducible rfl); rotate_left; (simp only [Act.put, sI_, s0_, sS_, i64_w, i32_w]; rfl)
            refine pure_ (i := 1) (N := some 39) (v := ?_) (a' := ?_) (bA 2 13) rfl rfl (any_of HT_.out (by kernel_rfl)) (fun _ _ _ h => h) (Or.inl ⟨by rfl, ?_⟩) ?_ ?_; rotate_left; (intro w'; go_simp; with_reducible rfl); rotate_left; (simp only [Act.put, sI_, s0_, sS_, i64_w, i32_w]; rfl)
            refine pure_ (i := 2) (N := some 40) (v := ?_) (a' := ?_) (bA 3 13) rfl rfl (any_of HT_.out (by kernel_rfl)) (fun _ _ _ h => h) (Or.inl ⟨by rfl, ?_⟩) ?_ ?_; rotate_left; (intro w'; go_simp; with_reducible rfl); rotate_left; (simp only [Act.put, sI_, s0_, sS_, i64_w, i32_w]; rfl)
            refine pure_ (i := 4) (N := some 42) (v := ?_) (a' := ?_) #[true, true, true, false, true, false, false, false, false, false, false, false, false] rfl rfl (any_of HT_.out (by kernel_rfl)) (fun _ _ _ h => h) (Or.inl ⟨by rfl, ?_⟩) ?_ ?_; rotate_left; (intro w'; go_simp; with_reducible rfl); rotate_left; (simp only [Act.put, sI_, s0_, sS_, i64_w, i32_w]; rfl)
            refine pure_ (i := 6) (N := some 44) (v := ?_) (a' := ?_) #[true, true, true, false, true, false, true, false, false, false, false, false, false] rfl rfl (any_of HT_.out (by kernel_rfl)) (fun _ _ _ h => h) (Or.inl ⟨by rfl, ?_⟩) ?_ ?_; rotate_left; (intro w'; go_simp; with_reducible rfl); rotate_left; (simp only [Act.put, sI_, s0_, sS_, i64_w, i32_w]; rfl)
            refine pure_ (i := 8) (N := some 46) (v := ?_) (a' := ?_) #[true, true, true, false, true, false, true, false, true, false, false, false, false] rfl rfl (any_of HT_.out (by kernel_rfl)) (fun _ _ _ h => h) (Or.inl ⟨by rfl, ?_⟩) ?_ ?_; rotate_left; (intro w'; go_simp; with_reducible rfl); rotate_left; (simp only [Act.put, sI_, s0_, sS_, i64_w, i32_w]; rfl)
            refine join_ (σ := Value × Value × Value × Value) 3 #[true, true, true, true, true, true, true, true, true, true, false, false, false] (fun s_ => [(41, s_.1), (43, s_.2.1), (45, s_.2.2.1), (47, s_.2.2.2)]) (fun s_ w' => (Kd.R (Kd.int .i64) 3 w' w.heap.size (fun k_ => some k_ ≠ (s_.2.1 : Value).ownBlock ∧ some k_ ≠ (s_.2.2.1 : Value).ownBlock ∧ some k_ ≠ (s_.2.2.2 : Value).ownBlock) s_.1 y114) ∧ (Kd.R (Kd.int .i64) 3 w' w.heap.size (fun k_ => some k_ ≠ (s_.1 : Value).ownBlock ∧ some k_ ≠ (s_.2.2.1 : Value).ownBlock ∧ some k_ ≠ (s_.2.2.2 : Value).ownBlock) s_.2.1 y117) ∧ (Kd.R (Kd.int .i64) 3 w' w.heap.size (fun k_ => some k_ ≠ (s_.1 : Value).ownBlock ∧ some k_ ≠ (s_.2.1 : Value).ownBlock ∧ some k_ ≠ (s_.2.2.2 : Value).ownBlock) s_.2.2.1 y120) ∧ (Kd.R (Kd.int .i64) 3 w' w.heap.size (fun k_ => some k_ ≠ (s_.1 : Value).ownBlock ∧ some k_ ≠ (s_.2.1 : Value).ownBlock ∧ some k_ ≠ (s_.2.2.1 : Value).ownBlock) s_.2.2.2 y123) ∧ (w'.heap[gb111]? = some (.cells #[.int .i64 0, .int .i64 0, .int .i64 0, .slice none 0 0, .slice none 0 0, .slice none 0 0, .slice none 0 0, .int .i64 0, .int .i64 0, .bool false] 25 (0, 0))) ∧ (Below w.heap.size w w')) ?_ ?_
            rotate_left
            ·intro hJ3_5_7_9
             refine join_ (σ := Value × Value × Value) 4 #[true, true, true, true, true, true, true, true, true, false, false, false, false] (fun s_ => [(41, s_.1), (43, s_.2.1), (45, s_.2.2)]) (fun s_ w' => (Kd.R (Kd.int .i64) 3 w' w.heap.size (fun k_ => some k_ ≠ (s_.2.1 : Value).ownBlock ∧ some k_ ≠ (s_.2.2 : Value).ownBlock) s_.1 y114) ∧ (Kd.R (Kd.int .i64) 3 w' w.heap.size (fun k_ => some k_ ≠ (s_.1 : Value).ownBlock ∧ some k_ ≠ (s_.2.2 : Value).ownBlock) s_.2.1 y117) ∧ (Kd.R (Kd.int .i64) 3 w' w.heap.size (fun k_ => some k_ ≠ (s_.1 : Value).ownBlock ∧ some k_ ≠ (s_.2.1 : Value).ownBlock) s_.2.2 y120) ∧ (w'.heap[gb111]? = some (.cells #[.int .i64 0, .int .i64 0, .int .i64 0, .slice none 0 0, .slice none 0 0, .slice none 0 0, .slice none 0 0, .int .i64 0, .int .i64 0, .bool false] 25 (0, 0))) ∧ (Below w.heap.size w w')) ?_ ?_
             rotate_left
             ·intro hJ3_5_7
              refine join_ (σ := Value × Value × Value) 4 #[true, true, true, true, true, true, true, false, true, true, false, false, false] (fun s_ => [(41, s_.1), (43, s_.2.1), (47, s_.2.2)]) (fun s_ w' => (Kd.R (Kd.int .i64) 3 w' w.heap.size (fun k_ => some k_ ≠ (s_.2.1 : Value).ownBlock ∧ some k_ ≠ (s_.2.2 : Value).ownBlock) s_.1 y114) ∧ (Kd.R (Kd.int .i64) 3 w' w.heap.size (fun k_ => some k_ ≠ (s_.1 : Value).ownBlock ∧ some k_ ≠ (s_.2.2 : Value).ownBlock) s_.2.1 y117) ∧ (Kd.R (Kd.int .i64) 3 w' w.heap.size (fun k_ => some k_ ≠ (s_.1 : Value).ownBlock ∧ some k_ ≠ (s_.2.1 : Value).ownBlock) s_.2.2 y123) ∧ (w'.heap[gb111]? = some (.cells #[.int .i64 0, .int .i64 0, .int .i64 0, .slice none 0 0, .slice none 0 0, .slice none 0 0, .slice none 0 0, .int .i64 0, .int .i64 0, .bool false] 25 (0, 0))) ∧ (Below w.heap.size w w')) ?_ ?_
              rotate_left
              ·intro hJ3_5_9
               refine join_ (σ := Value × Value × Value) 4 #[true, true, true, true, true, false, true, true, true, true, false, false, false] (fun s_ => [(41, s_.1), (45, s_.2.1), (47, s_.2.2)]) (fun s_ w' => (Kd.R (Kd.int .i64) 3 w' w.heap.size (fun k_ => some k_ ≠ (s_.2.1 : Value).ownBlock ∧ some k_ ≠ (s_.2.2 : Value).ownBlock) s_.1 y114) ∧ (Kd.R (Kd.int .i64) 3 w' w.heap.size (fun k_ => some k_ ≠ (s_.1 : Value).ownBlock ∧ some k_ ≠ (s_.2.2 : Value).ownBlock) s_.2.1 y120) ∧ (Kd.R (Kd.int .i64) 3 w' w.heap.size (fun k_ => some k_ ≠ (s_.1 : Value).ownBlock ∧ some k_ ≠ (s_.2.1 : Value).ownBlock) s_.2.2 y123) ∧ (w'.heap[gb111]? = some (.cells #[.int .i64 0, .int .i64 0, .int .i64 0, .slice none 0 0, .slice none 0 0, .slice none 0 0, .slice none 0 0, .int .i64 0, .int .i64 0, .bool false] 25 (0, 0))) ∧ (Below w.heap.size w w')) ?_ ?_
               rotate_left
               ·intro hJ3_7_9
                refine join_ (σ := Value × Value × Value) 4 #[true, true, true, false, true, true, true, true, true, true, false, false, false] (fun s_ => [(43, s_.1), (45, s_.2.1), (47, s_.2.2)]) (fun s_ w' => (Kd.R (Kd.int .i64) 3 w' w.heap.size (fun k_ => some k_ ≠ (s_.2.1 : Value).ownBlock ∧ some k_ ≠ (s_.2.2 : Value).ownBlock) s_.1 y117) ∧ (Kd.R (Kd.int .i64) 3 w' w.heap.size (fun k_ => some k_ ≠ (s_.1 : Value).ownBlock ∧ some k_ ≠ (s_.2.2 : Value).ownBlock) s_.2.1 y120) ∧ (Kd.R (Kd.int .i64) 3 w' w.heap.size (fun k_ => some k_ ≠ (s_.1 : Value).ownBlock ∧ some k_ ≠ (s_.2.1 : Value).ownBlock) s_.2.2 y123) ∧ (w'.heap[gb111]? = some (.cells #[.int .i64 0, .int .i64 0, .int .i64 0, .slice none 0 0, .slice none 0 0, .slice none 0 0, .slice none 0 0, .int .i64 0, .int .i64 0, .bool false] 25 (0, 0))) ∧ (Below w.heap.size w w')) ?_ ?_
                rotate_left
                ·intro hJ5_7_9
                 refine join_ (σ := Value × Value) 5 #[true, true, true, true, true, true, true, false, true, false, false, false, false] (fun s_ => [(41, s_.1), (43, s_.2)]) (fun s_ w' => (Kd.R (Kd.int .i64) 3 w' w.heap.size (fun k_ => some k_ ≠ (s_.2 : Value).ownBlock) s_.1 y114) ∧ (Kd.R (Kd.int .i64) 3 w' w.heap.size (fun k_ => some k_ ≠ (s_.1 : Value).ownBlock) s_.2 y117) ∧ (w'.heap[gb111]? = some (.cells #[.int .i64 0, .int .i64 0, .int .i64 0, .slice none 0 0, .slice none 0 0, .slice none 0 0, .slice none 0 0, .int .i64 0, .int .i64 0, .bool false] 25 (0, 0))) ∧ (Below w.heap.size w w')) ?_ ?_
                 rotate_left
                 ·intro hJ3_5
                  refine join_ (σ := Value × Value) 5 #[true, true, true, true, true, false, true, true, true, false, false, false, false] (fun s_ => [(41, s_.1), (45, s_.2)]) (fun s_ w' => (Kd.R (Kd.int .i64) 3 w' w.heap.size (fun k_ => some k_ ≠ (s_.2 : Value).ownBlock) s_.1 y114) ∧ (Kd.R (Kd.int .i64) 3 w' w.heap.size (fun k_ => some k_ ≠ (s_.1 : Value).ownBlock) s_.2 y120) ∧ (w'.heap[gb111]? = some (.cells #[.int .i64 0, .int .i64 0, .int .i64 0, .slice none 0 0, .slice none 0 0, .slice none 0 0, .slice none 0 0, .int .i64 0, .int .i64 0, .bool false] 25 (0, 0))) ∧ (Below w.heap.size w w')) ?_ ?_
                  rotate_left
                  ·intro hJ3_7
                   refine join_ (σ := Value × Value) 5 #[true, true, true, true, true, false, true, false, true, true, false, false, false] (fun s_ => [(41, s_.1), (47, s_.2)]) (fun s_ w' => (Kd.R (Kd.int .i64) 3 w' w.heap.size (fun k_ => some k_ ≠ (s_.2 : Value).ownBlock) s_.1 y114) ∧ (Kd.R (Kd.int .i64) 3 w' w.heap.size (fun k_ => some k_ ≠ (s_.1 : Value).ownBlock) s_.2 y123) ∧ (w'.heap[gb111]? = some (.cells #[.int .i64 0, .int .i64 0, .int .i64 0, .slice none 0 0, .slice none 0 0, .slice none 0 0, .slice none 0 0, .int .i64 0, .int .i64 0, .bool false] 25 (0, 0))) ∧ (Below w.heap.size w w')) ?_ ?_
                   rotate_left
                   ·intro hJ3_9
                    refine join_ (σ := Value × Value) 5 #[true, true, true, false, true, true, true, true, true, false, false, false, false] (fun s_ => [(43, s_.1), (45, s_.2)]) (fun s_ w' => (Kd.R (Kd.int .i64) 3 w' w.heap.size (fun k_ => some k_ ≠ (s_.2 : Value).ownBlock) s_.1 y117) ∧ (Kd.R (Kd.int .i64) 3 w' w.heap.size (fun k_ => some k_ ≠ (s_.1 : Value).ownBlock) s_.2 y120) ∧ (w'.heap[gb111]? = some (.cells #[.int .i64 0, .int .i64 0, .int .i64 0, .slice none 0 0, .slice none 0 0, .slice none 0 0, .slice none 0 0, .int .i64 0, .int .i64 0, .bool false] 25 (0, 0))) ∧ (Below w.heap.size w w')) ?_ ?_
                    rotate_left
                    ·intro hJ5_7
                     refine join_ (σ := Value × Value) 5 #[true, true, true, false, true, true, true, false, true, true, false, false, false] (fun s_ => [(43, s_.1), (47, s_.2)]) (fun s_ w' => (Kd.R (Kd.int .i64) 3 w' w.heap.size (fun k_ => some k_ ≠ (s_.2 : Value).ownBlock) s_.1 y117) ∧ (Kd.R (Kd.int .i64) 3 w' w.heap.size (fun k_ => some k_ ≠ (s_.1 : Value).ownBlock) s_.2 y123) ∧ (w'.heap[gb111]? = some (.cells #[.int .i64 0, .int .i64 0, .int .i64 0, .slice none 0 0, .slice none 0 0, .slice none 0 0, .slice none 0 0, .int .i64 0, .int .i64 0, .bool false] 25 (0, 0))) ∧ (Below w.heap.size w w')) ?_ ?_
                     rotate_left
                     ·intro hJ5_9
                      refine join_ (σ := Value × Value) 5 #[true, true, true, false, true, false, true, true, true, true, false, false, false] (fun s_ => [(45, s_.1), (47, s_.2)]) (fun s_ w' => (Kd.R (Kd.int .i64) 3 w' w.heap.size (fun k_ => some k_ ≠ (s_.2 : Value).ownBlock) s_.1 y120) ∧ (Kd.R (Kd.int .i64) 3 w' w.heap.size (fun k_ => some k_ ≠ (s_.1 : Value).ownBlock) s_.2 y123) ∧ (w'.heap[gb111]? = some (.cells #[.int .i64 0, .int .i64 0, .int .i64 0, .slice none 0 0, .slice none 0 0, .slice none 0 0, .slice none 0 0, .int .i64 0, .int .i64 0, .bool false] 25 (0, 0))) ∧ (Below w.heap.size w w')) ?_ ?_
                      rotate_left
                      ·intro hJ7_9
                       refine join_ (σ := Value) 6 #[true, true, true, true, true, false, true, false, true, false, false, false, false] (fun s_ => [(41, s_)]) (fun s_ w' => (Kd.R (Kd.int .i64) 3 w' w.heap.size (fun _ => True) s_ y114) ∧ (w'.heap[gb111]? = some (.cells #[.int .i64 0, .int .i64 0, .int .i64 0, .slice none 0 0, .slice none 0 0, .slice none 0 0, .slice none 0 0, .int .i64 0, .int .i64 0, .bool false] 25 (0, 0))) ∧ (Below w.heap.size w w')) ?_ ?_
                       rotate_left
                       ·intro hJ3
                        refine join_ (σ := Value) 6 #[true, true, true, false, true, true, true, false, true, false, false, false, false] (fun s_ => [(43, s_)]) (fun s_ w' => (Kd.R (Kd.int .i64) 3 w' w.heap.size (fun _ => True) s_ y117) ∧ (w'.heap[gb111]? = some (.cells #[.int .i64 0, .int .i64 0, .int .i64 0, .slice none 0 0, .slice none 0 0, .slice none 0 0, .slice none 0 0, .int .i64 0, .int .i64 0, .bool false] 25 (0, 0))) ∧ (Below w.heap.size w w')) ?_ ?_
                        rotate_left
                        ·intro hJ5
                         refine join_ (σ := Value) 6 #[true, true, true, false, true, false, true, true, true, false, false, false, false] (fun s_ => [(45, s_)]) (fun s_ w' => (Kd.R (Kd.int .i64) 3 w' w.heap.size (fun _ => True) s_ y120) ∧ (w'.heap[gb111]? = some (.cells #[.int .i64 0, .int .i64 0, .int .i64 0, .slice none 0 0, .slice none 0 0, .slice none 0 0, .slice none 0 0, .int .i64 0, .int .i64 0, .bool false] 25 (0, 0))) ∧ (Below w.heap.size w w')) ?_ ?_
                         rotate_left
                         ·intro hJ7
                          refine join_ (σ := Value) 6 #[true, true, true, false, true, false, true, false, true, true, false, false, false] (fun s_ => [(47, s_)]) (fun s_ w' => (Kd.R (Kd.int .i64) 3 w' w.heap.size (fun _ => True) s_ y123) ∧ (w'.heap[gb111]? = some (.cells #[.int .i64 0, .int .i64 0, .int .i64 0, .slice none 0 0, .slice none 0 0, .slice none 0 0, .slice none 0 0, .int .i64 0, .int .i64 0, .bool false] 25 (0, 0))) ∧ (Below w.heap.size w w')) ?_ ?_
                          rotate_left
                          ·intro hJ9
                           refine four_ (i := 3) (j := 5) (k := 7) (m := 9) (Ni := some 41) (Nj := some 43) (Nk := some 45) (Nm := some 47) #[true, true, true, true, true, false, true, false, true, false, false, false, false] #[true, true, true, false, true, true, true, false, true, false, false, false, false] #[true, true, true, false, true, false, true, true, true, false, false, false, false] #[true, true, true, false, true, false, true, false, true, true, false, false, false] rfl rfl rfl rfl rfl rfl rfl rfl (four_of HT_.out (by kernel_rfl)) (by decide) (by decide) (by decide) (by decide) (fun K hK => ?_) (fun K hK => ?_) (fun K hK => ?_) (fun K hK => ?_)
                           ·skip
                            refine Kd.R_make_step (Kd.int .i64) _ 3 (by rfl) (N := 41) rfl 23 _ _ rfl (((rd_T39 l0 a1).f2).length : Int) rfl rfl Try.underlying23 (.int .i64 0) 8 info3 rfl (by decide) (by omega) 0 (ok := fun _ => True) (okp := fun _ => True) rfl (fun _ hk => hk) trivial (of_decide_eq_true tW_) (Nat.le_trans (Nat.mul_le_mul_right _ (of_decide_eq_true tW_ : (((rd_T39 l0 a1).f2).length : Int).toNat ≤ 35184372088832)) (by omega)) (Below.refl _ _) (Nat.le_refl _) ?_
                            intro v115 w21 ho22 hb hg_ hnew_
                            clear hg_ hnew_
                            (first | rw [← Ny114.out] at ho22 | (simp only [Int.reduceToNat] at ho22; rw [← Ny114.out] at ho22))
                            have HO116 := Aside0.mk (Kd.R_lower ho22 (below_size (dL1_ HB GE111)))
                            replace BK111 := Aside0.mk (blk_below (g := gb111) (o := .cells #[.int .i64 0, .int .i64 0, .int .i64 0, .slice none 0 0, .slice none 0 0, .slice none 0 0, .slice none 0 0, .int .i64 0, .int .i64 0, .bool false] 25 (0, 0)) (dB_ BK111) hb)
                            replace HB := Aside0.mk (below_step (dL1_ HB GE111) hb)
                            clear hb ho22
                            refine hK.out _ _ trivial (fun hHeld => ?_)
                            clear hK K
                            refine norm_ (a' := ?_) ?_ ?_
                            rotate_left
                            ·show Act.put _ (some 41) _ = _
                             simp only [Act.put, sI_, s0_, sS_, i64_w, i32_w]
                             rfl
                            exact norm_ nm_ (hJ3 (v115) _ ⟨(dR_ HO116), (dB_ BK111), (dL1_ HB GE111)⟩)
                           ·skip
                            refine Kd.R_make_step (Kd.int .i64) _ 3 (by rfl) (N := 43) rfl 23 _ _ rfl (((rd_T39 l0 a1).f2).length : Int) rfl rfl Try.underlying23 (.int .i64 0) 8 info3 rfl (by decide) (by omega) 0 (ok := fun _ => True) (okp := fun _ => True) rfl (fun _ hk => hk) trivial (of_decide_eq_true tW_) (Nat.le_trans (Nat.mul_le_mul_right _ (of_decide_eq_true tW_ : (((rd_T39 l0 a1).f2).length : Int).toNat ≤ 35184372088832)) (by omega)) (Below.refl _ _) (Nat.le_refl _) ?_
                            intro v118 w21 ho22 hb hg_ hnew_
                            clear hg_ hnew_
                            (first | rw [← Ny117.out] at ho22 | (simp only [Int.reduceToNat] at ho22; rw [← Ny117.out] at ho22))
                            have HO119 := Aside0.mk (Kd.R_lower ho22 (below_size (dL1_ HB GE111)))
                            replace BK111 := Aside0.mk (blk_below (g := gb111) (o := .cells #[.int .i64 0, .int .i64 0, .int .i64 0, .slice none 0 0, .slice none 0 0, .slice none 0 0, .slice none 0 0, .int .i64 0, .int .i64 0, .bool false] 25 (0, 0)) (dB_ BK111) hb)
                            replace HB := Aside0.mk (below_step (dL1_ HB GE111) hb)
                            clear hb ho22
                            refine hK.out _ _ trivial (fun hHeld => ?_)
                            clear hK K
                            refine norm_ (a' := ?_) ?_ ?_
                            rotate_left
                            ·show Act.put _ (some 43) _ = _
                             simp only [Act.put, sI_, s0_, sS_, i64_w, i32_w]
                             rfl
                            exact norm_ nm_ (hJ5 (v118) _ ⟨(dR_ HO119), (dB_ BK111), (dL1_ HB GE111)⟩)
                           ·skip
                            refine Kd.R_make_step (Kd.int .i64) _ 3 (by rfl) (N := 45) rfl 23 _ _ rfl (((rd_T39 l0 a1).f2).length : Int) rfl rfl Try.underlying23 (.int .i64 0) 8 info3 rfl (by decide) (by omega) 0 (ok := fun _ => True) (okp := fun _ => True) rfl (fun _ hk => hk) trivial (of_decide_eq_true tW_) (Nat.le_trans (Nat.mul_le_mul_right _ (of_decide_eq_true tW_ : (((rd_T39 l0 a1).f2).length : Int).toNat ≤ 35184372088832)) (by omega)) (Below.refl _ _) (Nat.le_refl _) ?_
                            intro v121 w21 ho22 hb hg_ hnew_
                            clear hg_ hnew_
                            (first | rw [← Ny120.out] at ho22 | (simp only [Int.reduceToNat] at ho22; rw [← Ny120.out] at ho22))
                            have HO122 := Aside0.mk (Kd.R_lower ho22 (below_size (dL1_ HB GE111)))
                            replace BK111 := Aside0.mk (blk_below (g := gb111) (o := .cells #[.int .i64 0, .int .i64 0, .int .i64 0, .slice none 0 0, .slice none 0 0, .slice none 0 0, .slice none 0 0, .int .i64 0, .int .i64 0, .bool false] 25 (0, 0)) (dB_ BK111) hb)
                            replace HB := Aside0.mk (below_step (dL1_ HB GE111) hb)
                            clear hb ho22
                            refine hK.out _ _ trivial (fun hHeld => ?_)
                            clear hK K
                            refine norm_ (a' := ?_) ?_ ?_
                            rotate_left
                            ·show Act.put _ (some 45) _ = _
                             simp only [Act.put, sI_, s0_, sS_, i64_w, i32_w]
                             rfl
                            exact norm_ nm_ (hJ7 (v121) _ ⟨(dR_ HO122), (dB_ BK111), (dL1_ HB GE111)⟩)
                           ·skip
                            refine Kd.R_make_step (Kd.int .i64) _ 3 (by rfl) (N := 47) rfl 23 _ _ rfl (((rd_T39 l0 a1).f2).length : Int) rfl rfl Try.underlying23 (.int .i64 0) 8 info3 rfl (by decide) (by omega) 0 (ok := fun _ => True) (okp := fun _ => True) rfl (fun _ hk => hk) trivial (of_decide_eq_true tW_) (Nat.le_trans (Nat.mul_le_mul_right _ (of_decide_eq_true tW_ : (((rd_T39 l0 a1).f2).length : Int).toNat ≤ 35184372088832)) (by omega)) (Below.refl _ _) (Nat.le_refl _) ?_
                            intro v124 w21 ho22 hb hg_ hnew_
                            clear hg_ hnew_
                            (first | rw [← Ny123.out] at ho22 | (simp only [Int.reduceToNat] at ho22; rw [← Ny123.out] at ho22))
                            have HO125 := Aside0.mk (Kd.R_lower ho22 (below_size (dL1_ HB GE111)))
                            replace BK111 := Aside0.mk (blk_below (g := gb111) (o := .cells #[.int .i64 0, .int .i64 0, .int .i64 0, .slice none 0 0, .slice none 0 0, .slice none 0 0, .slice none 0 0, .int .i64 0, .int .i64 0, .bool false] 25 (0, 0)) (dB_ BK111) hb)
                            replace HB := Aside0.mk (below_step (dL1_ HB GE111) hb)
                            clear hb ho22
                            refine hK.out _ _ trivial (fun hHeld => ?_)
                            clear hK K
                            refine norm_ (a' := ?_) ?_ ?_
                            rotate_left
                            ·show Act.put _ (some 47) _ = _
                             simp only [Act.put, sI_, s0_, sS_, i64_w, i32_w]
                             rfl
                            exact norm_ nm_ (hJ9 (v124) _ ⟨(dR_ HO125), (dB_ BK111), (dL1_ HB GE111)⟩)
                          ·skip
                           rintro v124 w23 ⟨h0_, h1_, h2_⟩
                           have n0_ : Aside0 (Kd.R (Kd.int .i64) 3 w23 w.heap.size (fun _ => True) v124 y123) := ⟨h0_⟩
                           have n1_ : Aside0 (w23.heap[gb111]? = some (.cells #[.int .i64 0, .int .i64 0, .int .i64 0, .slice none 0 0, .slice none 0 0, .slice none 0 0, .slice none 0 0, .int .i64 0, .int .i64 0, .bool false] 25 (0, 0))) := ⟨h1_⟩
                           have n2_ : Aside0 (Below w.heap.size w w23) := ⟨h2_⟩
                           clear BK111
                           clear HB
                           clear h0_ h1_ h2_
                           have HO125 := n0_
                           have BK111 := n1_
                           have HB := n2_
                           clear n0_ n1_ n2_
                           have hHeld := trivial
                           refine norm_ (a' := ?_) ?_ ?_; rotate_left; (simp only [putAll, Act.put, sI_, s0_, sS_]; rfl)
                           refine three_ (i := 3) (j := 5) (k := 7) (Ni := some 41) (Nj := some 43) (Nk := some 45) #[true, true, true, true, true, false, true, false, true, true, false, false, false] #[true, true, true, false, true, true, true, false, true, true, false, false, false] #[true, true, true, false, true, false, true, true, true, true, false, false, false] rfl rfl rfl rfl rfl rfl (three_of HT_.out (by kernel_rfl)) (by decide) (by decide) (by decide) (fun K hK => ?_) (fun K hK => ?_) (fun K hK => ?_)
                           ·skip
                            refine Kd.R_make_step (Kd.int .i64) _ 3 (by rfl) (N := 41) rfl 23 _ _ rfl (((rd_T39 l0 a1).f2).length : Int) rfl rfl Try.underlying23 (.int .i64 0) 8 info3 rfl (by decide) (by omega) 0 (ok := fun _ => True) (okp := fun _ => True) rfl (fun _ hk => hk) trivial (of_decide_eq_true tW_) (Nat.le_trans (Nat.mul_le_mul_right _ (of_decide_eq_true tW_ : (((rd_T39 l0 a1).f2).length : Int).toNat ≤ 35184372088832)) (by omega)) (Below.refl _ _) (Nat.le_refl _) ?_
                            intro v115 w24 ho25 hb hg_ hnew_
                            clear hg_ hnew_
                            (first | rw [← Ny114.out] at ho25 | (simp only [Int.reduceToNat] at ho25; rw [← Ny114.out] at ho25))
                            have HO116 := Aside0.mk (Kd.R_lower (Kd.R_new' ho25 (Kd.R_lt (dR_ HO125))) (below_size (dL1_ HB GE111)))
                            replace HO125 := Aside0.mk (Kd.R_elder' (dR_ HO125) (Kd.R_base ho25) hb)
                            replace BK111 := Aside0.mk (blk_below (g := gb111) (o := .cells #[.int .i64 0, .int .i64 0, .int .i64 0, .slice none 0 0, .slice none 0 0, .slice none 0 0, .slice none 0 0, .int .i64 0, .int .i64 0, .bool false] 25 (0, 0)) (dB_ BK111) hb)
                            replace HB := Aside0.mk (below_step (dL1_ HB GE111) hb)
                            clear hb ho25
                            refine hK.out _ _ trivial (fun hHeld => ?_)
                            clear hK K
                            refine norm_ (a' := ?_) ?_ ?_
                            rotate_left
                            ·show Act.put _ (some 41) _ = _
                             simp only [Act.put, sI_, s0_, sS_, i64_w, i32_w]
                             rfl
                            exact norm_ nm_ (hJ3_9 (v115, v124) _ ⟨(by (with_reducible repeat (first | apply Kd.R_alloc | apply Kd.R_drewN | apply Kd.R_drew)); exact Kd.R_mono HO116.out (fun _ hk => hk.2)), (by (with_reducible repeat (first | apply Kd.R_alloc | apply Kd.R_drewN | apply Kd.R_drew)); exact Kd.R_mono HO125.out (fun _ hk => hk.2)), (dB_ BK111), (dL1_ HB GE111)⟩)
                           ·skip
                            refine Kd.R_make_step (Kd.int .i64) _ 3 (by rfl) (N := 43) rfl 23 _ _ rfl (((rd_T39 l0 a1).f2).length : Int) rfl rfl Try.underlying23 (.int .i64 0) 8 info3 rfl (by decide) (by omega) 0 (ok := fun _ => True) (okp := fun _ => True) rfl (fun _ hk => hk) trivial (of_decide_eq_true tW_) (Nat.le_trans (Nat.mul_le_mul_right _ (of_decide_eq_true tW_ : (((rd_T39 l0 a1).f2).length : Int).toNat ≤ 35184372088832)) (by omega)) (Below.refl _ _) (Nat.le_refl _) ?_
                            intro v118 w24 ho25 hb hg_ hnew_
                            clear hg_ hnew_
                            (first | rw [← Ny117.out] at ho25 | (simp only [Int.reduceToNat] at ho25; rw [← Ny117.out] at ho25))
                            have HO119 := Aside0.mk (Kd.R_lower (Kd.R_new' ho25 (Kd.R_lt (dR_ HO125))) (below_size (dL1_ HB GE111)))
                            replace HO125 := Aside0.mk (Kd.R_elder' (dR_ HO125) (Kd.R_base ho25) hb)
                            replace BK111 := Aside0.mk (blk_below (g := gb111) (o := .cells #[.int .i64 0, .int .i64 0, .int .i64 0, .slice none 0 0, .slice none 0 0, .slice none 0 0, .slice none 0 0, .int .i64 0, .int .i64 0, .bool false] 25 (0, 0)) (dB_ BK111) hb)
                            replace HB := Aside0.mk (below_step (dL1_ HB GE111) hb)
                            clear hb ho25
                            refine hK.out _ _ trivial (fun hHeld => ?_)
                            clear hK K
                            refine norm_ (a' := ?_) ?_ ?_
                            rotate_left
                            ·show Act.put _ (some 43) _ = _
                             simp only [Act.put, sI_, s0_, sS_, i64_w, i32_w]
                             rfl
                            exact norm_ nm_ (hJ5_9 (v118, v124) _ ⟨(by (with_reducible repeat (first | apply Kd.R_alloc | apply Kd.R_drewN | apply Kd.R_drew)); exact Kd.R_mono HO119.out (fun _ hk => hk.2)), (by (with_reducible repeat (first | apply Kd.R_alloc | apply Kd.R_drewN | apply Kd.R_drew)); exact Kd.R_mono HO125.out (fun _ hk => hk.2)), (dB_ BK111), (dL1_ HB GE111)⟩)
                           ·skip
                            refine Kd.R_make_step (Kd.int .i64) _ 3 (by rfl) (N := 45) rfl 23 _ _ rfl (((rd_T39 l0 a1).f2).length : Int) rfl rfl Try.underlying23 (.int .i64 0) 8 info3 rfl (by decide) (by omega) 0 (ok := fun _ => True) (okp := fun _ => True) rfl (fun _ hk => hk) trivial (of_decide_eq_true tW_) (Nat.le_trans (Nat.mul_le_mul_right _ (of_decide_eq_true tW_ : (((rd_T39 l0 a1).f2).length : Int).toNat ≤ 35184372088832)) (by omega)) (Below.refl _ _) (Nat.le_refl _) ?_
                            intro v121 w24 ho25 hb hg_ hnew_
                            clear hg_ hnew_
                            (first | rw [← Ny120.out] at ho25 | (simp only [Int.reduceToNat] at ho25; rw [← Ny120.out] at ho25))
                            have HO122 := Aside0.mk (Kd.R_lower (Kd.R_new' ho25 (Kd.R_lt (dR_ HO125))) (below_size (dL1_ HB GE111)))
                            replace HO125 := Aside0.mk (Kd.R_elder' (dR_ HO125) (Kd.R_base ho25) hb)
                            replace BK111 := Aside0.mk (blk_below (g := gb111) (o := .cells #[.int .i64 0, .int .i64 0, .int .i64 0, .slice none 0 0, .slice none 0 0, .slice none 0 0, .slice none 0 0, .int .i64 0, .int .i64 0, .bool false] 25 (0, 0)) (dB_ BK111) hb)
                            replace HB := Aside0.mk (below_step (dL1_ HB GE111) hb)
                            clear hb ho25
                            refine hK.out _ _ trivial (fun hHeld => ?_)
                            clear hK K
                            refine norm_ (a' := ?_) ?_ ?_
                            rotate_left
                            ·show Act.put _ (some 45) _ = _
                             simp only [Act.put, sI_, s0_, sS_, i64_w, i32_w]
                             rfl
                            exact norm_ nm_ (hJ7_9 (v121, v124) _ ⟨(by (with_reducible repeat (first | apply Kd.R_alloc | apply Kd.R_drewN | apply Kd.R_drew)); exact Kd.R_mono HO122.out (fun _ hk => hk.2)), (by (with_reducible repeat (first | apply Kd.R_alloc | apply Kd.R_drewN | apply Kd.R_drew)); exact Kd.R_mono HO125.out (fun _ hk => hk.2)), (dB_ BK111), (dL1_ HB GE111)⟩)
                         ·skip
                          rintro v121 w23 ⟨h0_, h1_, h2_⟩
                          have n0_ : Aside0 (Kd.R (Kd.int .i64) 3 w23 w.heap.size (fun _ => True) v121 y120) := ⟨h0_⟩
                          have n1_ : Aside0 (w23.heap[gb111]? = some (.cells #[.int .i64 0, .int .i64 0, .int .i64 0, .slice none 0 0, .slice none 0 0, .slice none 0 0, .slice none 0 0, .int .i64 0, .int .i64 0, .bool false] 25 (0, 0))) := ⟨h1_⟩
                          have n2_ : Aside0 (Below w.heap.size w w23) := ⟨h2_⟩
                          clear BK111
                          clear HB
                          clear h0_ h1_ h2_
                          have HO122 := n0_
                          have BK111 := n1_
                          have HB := n2_
                          clear n0_ n1_ n2_
                          have hHeld := trivial
                          refine norm_ (a' := ?_) ?_ ?_; rotate_left; (simp only [putAll, Act.put, sI_, s0_, sS_]; rfl)
                          refine three_ (i := 3) (j := 5) (k := 9) (Ni := some 41) (Nj := some 43) (Nk := some 47) #[true, true, true, true, true, false, true, true, true, false, false, false, false] #[true, true, true, false, true, true, true, true, true, false, false, false, false] #[true, true, true, false, true, false, true, true, true, true, false, false, false] rfl rfl rfl rfl rfl rfl (three_of HT_.out (by kernel_rfl)) (by decide) (by decide) (by decide) (fun K hK => ?_) (fun K hK => ?_) (fun K hK => ?_)
                          ·skip
                           refine Kd.R_make_step (Kd.int .i64) _ 3 (by rfl) (N := 41) rfl 23 _ _ rfl (((rd_T39 l0 a1).f2).length : Int) rfl rfl Try.underlying23 (.int .i64 0) 8 info3 rfl (by decide) (by omega) 0 (ok := fun _ => True) (okp := fun _ => True) rfl (fun _ hk => hk) trivial (of_decide_eq_true tW_) (Nat.le_trans (Nat.mul_le_mul_right _ (of_decide_eq_true tW_ : (((rd_T39 l0 a1).f2).length : Int).toNat ≤ 35184372088832)) (by omega)) (Below.refl _ _) (Nat.le_refl _) ?_
                           intro v115 w24 ho25 hb hg_ hnew_
                           clear hg_ hnew_
                           (first | rw [← Ny114.out] at ho25 | (simp only [Int.reduceToNat] at ho25; rw [← Ny114.out] at ho25))
                           have HO116 := Aside0.mk (Kd.R_lower (Kd.R_new' ho25 (Kd.R_lt (dR_ HO122))) (below_size (dL1_ HB GE111)))
                           replace HO122 := Aside0.mk (Kd.R_elder' (dR_ HO122) (Kd.R_base ho25) hb)
                           replace BK111 := Aside0.mk (blk_below (g := gb111) (o := .cells #[.int .i64 0, .int .i64 0, .int .i64 0, .slice none 0 0, .slice none 0 0, .slice none 0 0, .slice none 0 0, .int .i64 0, .int .i64 0, .bool false] 25 (0, 0)) (dB_ BK111) hb)
                           replace HB := Aside0.mk (below_step (dL1_ HB GE111) hb)
                           clear hb ho25
                           refine hK.out _ _ trivial (fun hHeld => ?_)
                           clear hK K
                           refine norm_ (a' := ?_) ?_ ?_
                           rotate_left
                           ·show Act.put _ (some 41) _ = _
                            simp only [Act.put, sI_, s0_, sS_, i64_w, i32_w]
                            rfl
                           exact norm_ nm_ (hJ3_7 (v115, v121) _ ⟨(by (with_reducible repeat (first | apply Kd.R_alloc | apply Kd.R_drewN | apply Kd.R_drew)); exact Kd.R_mono HO116.out (fun _ hk => hk.2)), (by (with_reducible repeat (first | apply Kd.R_alloc | apply Kd.R_drewN | apply Kd.R_drew)); exact Kd.R_mono HO122.out (fun _ hk => hk.2)), (dB_ BK111), (dL1_ HB GE111)⟩)
                          ·skip
                           refine Kd.R_make_step (Kd.int .i64) _ 3 (by rfl) (N := 43) rfl 23 _ _ rfl (((rd_T39 l0 a1).f2).length : Int) rfl rfl Try.underlying23 (.int .i64 0) 8 info3 rfl (by decide) (by omega) 0 (ok := fun _ => True) (okp := fun _ => True) rfl (fun _ hk => hk) trivial (of_decide_eq_true tW_) (Nat.le_trans (Nat.mul_le_mul_right _ (of_decide_eq_true tW_ : (((rd_T39 l0 a1).f2).length : Int).toNat ≤ 35184372088832)) (by omega)) (Below.refl _ _) (Nat.le_refl _) ?_
                           intro v118 w24 ho25 hb hg_ hnew_
                           clear hg_ hnew_
                           (first | rw [← Ny117.out] at ho25 | (simp only [Int.reduceToNat] at ho25; rw [← Ny117.out] at ho25))
                           have HO119 := Aside0.mk (Kd.R_lower (Kd.R_new' ho25 (Kd.R_lt (dR_ HO122))) (below_size (dL1_ HB GE111)))
                           replace HO122 := Aside0.mk (Kd.R_elder' (dR_ HO122) (Kd.R_base ho25) hb)
                           replace BK111 := Aside0.mk (blk_below (g := gb111) (o := .cells #[.int .i64 0, .int .i64 0, .int .i64 0, .slice none 0 0, .slice none 0 0, .slice none 0 0, .slice none 0 0, .int .i64 0, .int .i64 0, .bool false] 25 (0, 0)) (dB_ BK111) hb)
                           replace HB := Aside0.mk (below_step (dL1_ HB GE111) hb)
                           clear hb ho25
                           refine hK.out _ _ trivial (fun hHeld => ?_)
                           clear hK K
                           refine norm_ (a' := ?_) ?_ ?_
                           rotate_left
                           ·show Act.put _ (some 43) _ = _
                            simp only [Act.put, sI_, s0_, sS_, i64_w, i32_w]
                            rfl
                           exact norm_ nm_ (hJ5_7 (v118, v121) _ ⟨(by (with_reducible repeat (first | apply Kd.R_alloc | apply Kd.R_drewN | apply Kd.R_drew)); exact Kd.R_mono HO119.out (fun _ hk => hk.2)), (by (with_reducible repeat (first | apply Kd.R_alloc | apply Kd.R_drewN | apply Kd.R_drew)); exact Kd.R_mono HO122.out (fun _ hk => hk.2)), (dB_ BK111), (dL1_ HB GE111)⟩)
                          ·skip
                           refine Kd.R_make_step (Kd.int .i64) _ 3 (by rfl) (N := 47) rfl 23 _ _ rfl (((rd_T39 l0 a1).f2).length : Int) rfl rfl Try.underlying23 (.int .i64 0) 8 info3 rfl (by decide) (by omega) 0 (ok := fun _ => True) (okp := fun _ => True) rfl (fun _ hk => hk) trivial (of_decide_eq_true tW_) (Nat.le_trans (Nat.mul_le_mul_right _ (of_decide_eq_true tW_ : (((rd_T39 l0 a1).f2).length : Int).toNat ≤ 35184372088832)) (by omega)) (Below.refl _ _) (Nat.le_refl _) ?_
                           intro v124 w24 ho25 hb hg_ hnew_
                           clear hg_ hnew_
                           (first | rw [← Ny123.out] at ho25 | (simp only [Int.reduceToNat] at ho25; rw [← Ny123.out] at ho25))
                           have HO125 := Aside0.mk (Kd.R_lower (Kd.R_new' ho25 (Kd.R_lt (dR_ HO122))) (below_size (dL1_ HB GE111)))
                           replace HO122 := Aside0.mk (Kd.R_elder' (dR_ HO122) (Kd.R_base ho25) hb)
                           replace BK111 := Aside0.mk (blk_below (g := gb111) (o := .cells #[.int .i64 0, .int .i64 0, .int .i64 0, .slice none 0 0, .slice none 0 0, .slice none 0 0, .slice none 0 0, .int .i64 0, .int .i64 0, .bool false] 25 (0, 0)) (dB_ BK111) hb)
                           replace HB := Aside0.mk (below_step (dL1_ HB GE111) hb)
                           clear hb ho25
                           refine hK.out _ _ trivial (fun hHeld => ?_)
                           clear hK K
                           refine norm_ (a' := ?_) ?_ ?_
                           rotate_left
                           ·show Act.put _ (some 47) _ = _
                            simp only [Act.put, sI_, s0_, sS_, i64_w, i32_w]
                            rfl
                           exact norm_ nm_ (hJ7_9 (v121, v124) _ ⟨(by (with_reducible repeat (first | apply Kd.R_alloc | apply Kd.R_drewN | apply Kd.R_drew)); exact Kd.R_mono HO122.out (fun _ hk => hk.2)), (by (with_reducible repeat (first | apply Kd.R_alloc | apply Kd.R_drewN | apply Kd.R_drew)); exact Kd.R_mono HO125.out (fun _ hk => hk.2)), (dB_ BK111), (dL1_ HB GE111)⟩)
                        ·skip
                         rintro v118 w23 ⟨h0_, h1_, h2_⟩
                         have n0_ : Aside0 (Kd.R (Kd.int .i64) 3 w23 w.heap.size (fun _ => True) v118 y117) := ⟨h0_⟩
                         have n1_ : Aside0 (w23.heap[gb111]? = some (.cells #[.int .i64 0, .int .i64 0, .int .i64 0, .slice none 0 0, .slice none 0 0, .slice none 0 0, .slice none 0 0, .int .i64 0, .int .i64 0, .bool false] 25 (0, 0))) := ⟨h1_⟩
                         have n2_ : Aside0 (Below w.heap.size w w23) := ⟨h2_⟩
                         clear BK111
                         clear HB
                         clear h0_ h1_ h2_
                         have HO119 := n0_
                         have BK111 := n1_
                         have HB := n2_
                         clear n0_ n1_ n2_
                         have hHeld := trivial
                         refine norm_ (a' := ?_) ?_ ?_; rotate_left; (simp only [putAll, Act.put, sI_, s0_, sS_]; rfl)
                         refine three_ (i := 3) (j := 7) (k := 9) (Ni := some 41) (Nj := some 45) (Nk := some 47) #[true, true, true, true, true, true, true, false, true, false, false, false, false] #[true, true, true, false, true, true, true, true, true, false, false, false, false] #[true, true, true, false, true, true, true, false, true, true, false, false, false] rfl rfl rfl rfl rfl rfl (three_of HT_.out (by kernel_rfl)) (by decide) (by decide) (by decide) (fun K hK => ?_) (fun K hK => ?_) (fun K hK => ?_)
                         ·skip
                          refine Kd.R_make_step (Kd.int .i64) _ 3 (by rfl) (N := 41) rfl 23 _ _ rfl (((rd_T39 l0 a1).f2).length : Int) rfl rfl Try.underlying23 (.int .i64 0) 8 info3 rfl (by decide) (by omega) 0 (ok := fun _ => True) (okp := fun _ => True) rfl (fun _ hk => hk) trivial (of_decide_eq_true tW_) (Nat.le_trans (Nat.mul_le_mul_right _ (of_decide_eq_true tW_ : (((rd_T39 l0 a1).f2).length : Int).toNat ≤ 35184372088832)) (by omega)) (Below.refl _ _) (Nat.le_refl _) ?_
                          intro v115 w24 ho25 hb hg_ hnew_
                          clear hg_ hnew_
                          (first | rw [← Ny114.out] at ho25 | (simp only [Int.reduceToNat] at ho25; rw [← Ny114.out] at ho25))
                          have HO116 := Aside0.mk (Kd.R_lower (Kd.R_new' ho25 (Kd.R_lt (dR_ HO119))) (below_size (dL1_ HB GE111)))
                          replace HO119 := Aside0.mk (Kd.R_elder' (dR_ HO119) (Kd.R_base ho25) hb)
                          replace BK111 := Aside0.mk (blk_below (g := gb111) (o := .cells #[.int .i64 0, .int .i64 0, .int .i64 0, .slice none 0 0, .slice none 0 0, .slice none 0 0, .slice none 0 0, .int .i64 0, .int .i64 0, .bool false] 25 (0, 0)) (dB_ BK111) hb)
                          replace HB := Aside0.mk (below_step (dL1_ HB GE111) hb)
                          clear hb ho25
                          refine hK.out _ _ trivial (fun hHeld => ?_)
                          clear hK K
                          refine norm_ (a' := ?_) ?_ ?_
                          rotate_left
                          ·show Act.put _ (some 41) _ = _
                           simp only [Act.put, sI_, s0_, sS_, i64_w, i32_w]
                           rfl
                          exact norm_ nm_ (hJ3_5 (v115, v118) _ ⟨(by (with_reducible repeat (first | apply Kd.R_alloc | apply Kd.R_drewN | apply Kd.R_drew)); exact Kd.R_mono HO116.out (fun _ hk => hk.2)), (by (with_reducible repeat (first | apply Kd.R_alloc | apply Kd.R_drewN | apply Kd.R_drew)); exact Kd.R_mono HO119.out (fun _ hk => hk.2)), (dB_ BK111), (dL1_ HB GE111)⟩)
                         ·skip
                          refine Kd.R_make_step (Kd.int .i64) _ 3 (by rfl) (N := 45) rfl 23 _ _ rfl (((rd_T39 l0 a1).f2).length : Int) rfl rfl Try.underlying23 (.int .i64 0) 8 info3 rfl (by decide) (by omega) 0 (ok := fun _ => True) (okp := fun _ => True) rfl (fun _ hk => hk) trivial (of_decide_eq_true tW_) (Nat.le_trans (Nat.mul_le_mul_right _ (of_decide_eq_true tW_ : (((rd_T39 l0 a1).f2).length : Int).toNat ≤ 35184372088832)) (by omega)) (Below.refl _ _) (Nat.le_refl _) ?_
                          intro v121 w24 ho25 hb hg_ hnew_
                          clear hg_ hnew_
                          (first | rw [← Ny120.out] at ho25 | (simp only [Int.reduceToNat] at ho25; rw [← Ny120.out] at ho25))
                          have HO122 := Aside0.mk (Kd.R_lower (Kd.R_new' ho25 (Kd.R_lt (dR_ HO119))) (below_size (dL1_ HB GE111)))
                          replace HO119 := Aside0.mk (Kd.R_elder' (dR_ HO119) (Kd.R_base ho25) hb)
                          replace BK111 := Aside0.mk (blk_below (g := gb111) (o := .cells #[.int .i64 0, .int .i64 0, .int .i64 0, .slice none 0 0, .slice none 0 0, .slice none 0 0, .slice none 0 0, .int .i64 0, .int .i64 0, .bool false] 25 (0, 0)) (dB_ BK111) hb)
                          replace HB := Aside0.mk (below_step (dL1_ HB GE111) hb)
                          clear hb ho25
                          refine hK.out _ _ trivial (fun hHeld => ?_)
                          clear hK K
                          refine norm_ (a' := ?_) ?_ ?_
                          rotate_left
                          ·show Act.put _ (some 45) _ = _
                           simp only [Act.put, sI_, s0_, sS_, i64_w, i32_w]
                           rfl
                          exact norm_ nm_ (hJ5_7 (v118, v121) _ ⟨(by (with_reducible repeat (first | apply Kd.R_alloc | apply Kd.R_drewN | apply Kd.R_drew)); exact Kd.R_mono HO119.out (fun _ hk => hk.2)), (by (with_reducible repeat (first | apply Kd.R_alloc | apply Kd.R_drewN | apply Kd.R_drew)); exact Kd.R_mono HO122.out (fun _ hk => hk.2)), (dB_ BK111), (dL1_ HB GE111)⟩)
                         ·skip
                          refine Kd.R_make_step (Kd.int .i64) _ 3 (by rfl) (N := 47) rfl 23 _ _ rfl (((rd_T39 l0 a1).f2).length : Int) rfl rfl Try.underlying23 (.int .i64 0) 8 info3 rfl (by decide) (by omega) 0 (ok := fun _ => True) (okp := fun _ => True) rfl (fun _ hk => hk) trivial (of_decide_eq_true tW_) (Nat.le_trans (Nat.mul_le_mul_right _ (of_decide_eq_true tW_ : (((rd_T39 l0 a1).f2).length : Int).toNat ≤ 35184372088832)) (by omega)) (Below.refl _ _) (Nat.le_refl _) ?_
                          intro v124 w24 ho25 hb hg_ hnew_
                          clear hg_ hnew_
                          (first | rw [← Ny123.out] at ho25 | (simp only [Int.reduceToNat] at ho25; rw [← Ny123.out] at ho25))
                          have HO125 := Aside0.mk (Kd.R_lower (Kd.R_new' ho25 (Kd.R_lt (dR_ HO119))) (below_size (dL1_ HB GE111)))
                          replace HO119 := Aside0.mk (Kd.R_elder' (dR_ HO119) (Kd.R_base ho25) hb)
                          replace BK111 := Aside0.mk (blk_below (g := gb111) (o := .cells #[.int .i64 0, .int .i64 0, .int .i64 0, .slice none 0 0, .slice none 0 0, .slice none 0 0, .slice none 0 0, .int .i64 0, .int .i64 0, .bool false] 25 (0, 0)) (dB_ BK111) hb)
                          replace HB := Aside0.mk (below_step (dL1_ HB GE111) hb)
                          clear hb ho25
                          refine hK.out _ _ trivial (fun hHeld => ?_)
                          clear hK K
                          refine norm_ (a' := ?_) ?_ ?_
                          rotate_left
                          ·show Act.put _ (some 47) _ = _
                           simp only [Act.put, sI_, s0_, sS_, i64_w, i32_w]
                           rfl
                          exact norm_ nm_ (hJ5_9 (v118, v124) _ ⟨(by (with_reducible repeat (first | apply Kd.R_alloc | apply Kd.R_drewN | apply Kd.R_drew)); exact Kd.R_mono HO119.out (fun _ hk => hk.2)), (by (with_reducible repeat (first | apply Kd.R_alloc | apply Kd.R_drewN | apply Kd.R_drew)); exact Kd.R_mono HO125.out (fun _ hk => hk.2)), (dB_ BK111), (dL1_ HB GE111)⟩)
                       ·skip
                        rintro v115 w23 ⟨h0_, h1_, h2_⟩
                        have n0_ : Aside0 (Kd.R (Kd.int .i64) 3 w23 w.heap.size (fun _ => True) v115 y114) := ⟨h0_⟩
                        have n1_ : Aside0 (w23.heap[gb111]? = some (.cells #[.int .i64 0, .int .i64 0, .int .i64 0, .slice none 0 0, .slice none 0 0, .slice none 0 0, .slice none 0 0, .int .i64 0, .int .i64 0, .bool false] 25 (0, 0))) := ⟨h1_⟩
                        have n2_ : Aside0 (Below w.heap.size w w23) := ⟨h2_⟩
                        clear BK111
                        clear HB
                        clear h0_ h1_ h2_
                        have HO116 := n0_
                        have BK111 := n1_
                        have HB := n2_
                        clear n0_ n1_ n2_
                        have hHeld := trivial
                        refine norm_ (a' := ?_) ?_ ?_; rotate_left; (simp only [putAll, Act.put, sI_, s0_, sS_]; rfl)
                        refine three_ (i := 5) (j := 7) (k := 9) (Ni := some 43) (Nj := some 45) (Nk := some 47) #[true, true, true, true, true, true, true, false, true, false, false, false, false] #[true, true, true, true, true, false, true, true, true, false, false, false, false] #[true, true, true, true, true, false, true, false, true, true, false, false, false] rfl rfl rfl rfl rfl rfl (three_of HT_.out (by kernel_rfl)) (by decide) (by decide) (by decide) (fun K hK => ?_) (fun K hK => ?_) (fun K hK => ?_)
                        ·skip
                         refine Kd.R_make_step (Kd.int .i64) _ 3 (by rfl) (N := 43) rfl 23 _ _ rfl (((rd_T39 l0 a1).f2).length : Int) rfl rfl Try.underlying23 (.int .i64 0) 8 info3 rfl (by decide) (by omega) 0 (ok := fun _ => True) (okp := fun _ => True) rfl (fun _ hk => hk) trivial (of_decide_eq_true tW_) (Nat.le_trans (Nat.mul_le_mul_right _ (of_decide_eq_true tW_ : (((rd_T39 l0 a1).f2).length : Int).toNat ≤ 35184372088832)) (by omega)) (Below.refl _ _) (Nat.le_refl _) ?_
                         intro v118 w24 ho25 hb hg_ hnew_
                         clear hg_ hnew_
                         (first | rw [← Ny117.out] at ho25 | (simp only [Int.reduceToNat] at ho25; rw [← Ny117.out] at ho25))
                         have HO119 := Aside0.mk (Kd.R_lower (Kd.R_new' ho25 (Kd.R_lt (dR_ HO116))) (below_size (dL1_ HB GE111)))
                         replace HO116 := Aside0.mk (Kd.R_elder' (dR_ HO116) (Kd.R_base ho25) hb)
                         replace BK111 := Aside0.mk (blk_below (g := gb111) (o := .cells #[.int .i64 0, .int .i64 0, .int .i64 0, .slice none 0 0, .slice none 0 0, .slice none 0 0, .slice none 0 0, .int .i64 0, .int .i64 0, .bool false] 25 (0, 0)) (dB_ BK111) hb)
                         replace HB := Aside0.mk (below_step (dL1_ HB GE111) hb)
                         clear hb ho25
                         refine hK.out _ _ trivial (fun hHeld => ?_)
                         clear hK K
                         refine norm_ (a' := ?_) ?_ ?_
                         rotate_left
                         ·show Act.put _ (some 43) _ = _
                          simp only [Act.put, sI_, s0_, sS_, i64_w, i32_w]
                          rfl
                         exact norm_ nm_ (hJ3_5 (v115, v118) _ ⟨(by (with_reducible repeat (first | apply Kd.R_alloc | apply Kd.R_drewN | apply Kd.R_drew)); exact Kd.R_mono HO116.out (fun _ hk => hk.2)), (by (with_reducible repeat (first | apply Kd.R_alloc | apply Kd.R_drewN | apply Kd.R_drew)); exact Kd.R_mono HO119.out (fun _ hk => hk.2)), (dB_ BK111), (dL1_ HB GE111)⟩)
                        ·skip
                         refine Kd.R_make_step (Kd.int .i64) _ 3 (by rfl) (N := 45) rfl 23 _ _ rfl (((rd_T39 l0 a1).f2).length : Int) rfl rfl Try.underlying23 (.int .i64 0) 8 info3 rfl (by decide) (by omega) 0 (ok := fun _ => True) (okp := fun _ => True) rfl (fun _ hk => hk) trivial (of_decide_eq_true tW_) (Nat.le_trans (Nat.mul_le_mul_right _ (of_decide_eq_true tW_ : (((rd_T39 l0 a1).f2).length : Int).toNat ≤ 35184372088832)) (by omega)) (Below.refl _ _) (Nat.le_refl _) ?_
                         intro v121 w24 ho25 hb hg_ hnew_
                         clear hg_ hnew_
                         (first | rw [← Ny120.out] at ho25 | (simp only [Int.reduceToNat] at ho25; rw [← Ny120.out] at ho25))
                         have HO122 := Aside0.mk (Kd.R_lower (Kd.R_new' ho25 (Kd.R_lt (dR_ HO116))) (below_size (dL1_ HB GE111)))
                         replace HO116 := Aside0.mk (Kd.R_elder' (dR_ HO116) (Kd.R_base ho25) hb)
                         replace BK111 := Aside0.mk (blk_below (g := gb111) (o := .cells #[.int .i64 0, .int .i64 0, .int .i64 0, .slice none 0 0, .slice none 0 0, .slice none 0 0, .slice none 0 0, .int .i64 0, .int .i64 0, .bool false] 25 (0, 0)) (dB_ BK111) hb)
                         replace HB := Aside0.mk (below_step (dL1_ HB GE111) hb)
                         clear hb ho25
                         refine hK.out _ _ trivial (fun hHeld => ?_)
                         clear hK K
                         refine norm_ (a' := ?_) ?_ ?_
                         rotate_left
                         ·show Act.put _ (some 45) _ = _
                          simp only [Act.put, sI_, s0_, sS_, i64_w, i32_w]
                          rfl
                         exact norm_ nm_ (hJ3_7 (v115, v121) _ ⟨(by (with_reducible repeat (first | apply Kd.R_alloc | apply Kd.R_drewN | apply Kd.R_drew)); exact Kd.R_mono HO116.out (fun _ hk => hk.2)), (by (with_reducible repeat (first | apply Kd.R_alloc | apply Kd.R_drewN | apply Kd.R_drew)); exact Kd.R_mono HO122.out (fun _ hk => hk.2)), (dB_ BK111), (dL1_ HB GE111)⟩)
                        ·skip
                         refine Kd.R_make_step (Kd.int .i64) _ 3 (by rfl) (N := 47) rfl 23 _ _ rfl (((rd_T39 l0 a1).f2).length : Int) rfl rfl Try.underlying23 (.int .i64 0) 8 info3 rfl (by decide) (by omega) 0 (ok := fun _ => True) (okp := fun _ => True) rfl (fun _ hk => hk) trivial (of_decide_eq_true tW_) (Nat.le_trans (Nat.mul_le_mul_right _ (of_decide_eq_true tW_ : (((rd_T39 l0 a1).f2).length : Int).toNat ≤ 35184372088832)) (by omega)) (Below.refl _ _) (Nat.le_refl _) ?_
                         intro v124 w24 ho25 hb hg_ hnew_
                         clear hg_ hnew_
                         (first | rw [← Ny123.out] at ho25 | (simp only [Int.reduceToNat] at ho25; rw [← Ny123.out] at ho25))
                         have HO125 := Aside0.mk (Kd.R_lower (Kd.R_new' ho25 (Kd.R_lt (dR_ HO116))) (below_size (dL1_ HB GE111)))
                         replace HO116 := Aside0.mk (Kd.R_elder' (dR_ HO116) (Kd.R_base ho25) hb)
                         replace BK111 := Aside0.mk (blk_below (g := gb111) (o := .cells #[.int .i64 0, .int .i64 0, .int .i64 0, .slice none 0 0, .slice none 0 0, .slice none 0 0, .slice none 0 0, .int .i64 0, .int .i64 0, .bool false] 25 (0, 0)) (dB_ BK111) hb)
                         replace HB := Aside0.mk (below_step (dL1_ HB GE111) hb)
                         clear hb ho25
                         refine hK.out _ _ trivial (fun hHeld => ?_)
                         clear hK K
                         refine norm_ (a' := ?_) ?_ ?_
                         rotate_left
                         ·show Act.put _ (some 47) _ = _
                          simp only [Act.put, sI_, s0_, sS_, i64_w, i32_w]
                          rfl
                         exact norm_ nm_ (hJ3_9 (v115, v124) _ ⟨(by (with_reducible repeat (first | apply Kd.R_alloc | apply Kd.R_drewN | apply Kd.R_drew)); exact Kd.R_mono HO116.out (fun _ hk => hk.2)), (by (with_reducible repeat (first | apply Kd.R_alloc | apply Kd.R_drewN | apply Kd.R_drew)); exact Kd.R_mono HO125.out (fun _ hk => hk.2)), (dB_ BK111), (dL1_ HB GE111)⟩)
                      ·skip
                       rintro ⟨v121, v124⟩ w25 ⟨h0_, h1_, h2_, h3_⟩
                       have n0_ : Aside0 (Kd.R (Kd.int .i64) 3 w25 w.heap.size (fun k_ => some k_ ≠ (v124 : Value).ownBlock) v121 y120) := ⟨h0_⟩
                       have n1_ : Aside0 (Kd.R (Kd.int .i64) 3 w25 w.heap.size (fun k_ => some k_ ≠ (v121 : Value).ownBlock) v124 y123) := ⟨h1_⟩
                       have n2_ : Aside0 (w25.heap[gb111]? = some (.cells #[.int .i64 0, .int .i64 0, .int .i64 0, .slice none 0 0, .slice none 0 0, .slice none 0 0, .slice none 0 0, .int .i64 0, .int .i64 0, .bool false] 25 (0, 0))) := ⟨h2_⟩
                       have n3_ : Aside0 (Below w.heap.size w w25) := ⟨h3_⟩
                       clear BK111
                       clear HB
                       clear h0_ h1_ h2_ h3_
                       have HO122 := n0_
                       have HO125 := n1_
                       have BK111 := n2_
                       have HB := n3_
                       clear n0_ n1_ n2_ n3_
                       have hHeld := trivial
                       refine norm_ (a' := ?_) ?_ ?_; rotate_left; (simp only [putAll, Act.put, sI_, s0_, sS_]; rfl)
                       refine two_ (i := 3) (j := 5) (Ni := some 41) (Nj := some 43) #[true, true, true, true, true, false, true, true, true, true, false, false, false] #[true, true, true, false, true, true, true, true, true, true, false, false, false] rfl rfl rfl rfl (two_of HT_.out (by kernel_rfl)) (by decide) (by decide) (fun K hK => ?_) (fun K hK => ?_)
                       ·skip
                        refine Kd.R_make_step (Kd.int .i64) _ 3 (by rfl) (N := 41) rfl 23 _ _ rfl (((rd_T39 l0 a1).f2).length : Int) rfl rfl Try.underlying23 (.int .i64 0) 8 info3 rfl (by decide) (by omega) 0 (ok := fun _ => True) (okp := fun _ => True) rfl (fun _ hk => hk) trivial (of_decide_eq_true tW_) (Nat.le_trans (Nat.mul_le_mul_right _ (of_decide_eq_true tW_ : (((rd_T39 l0 a1).f2).length : Int).toNat ≤ 35184372088832)) (by omega)) (Below.refl _ _) (Nat.le_refl _) ?_
                        intro v115 w26 ho27 hb hg_ hnew_
                        clear hg_ hnew_
                        (first | rw [← Ny114.out] at ho27 | (simp only [Int.reduceToNat] at ho27; rw [← Ny114.out] at ho27))
                        have HO116 := Aside0.mk (Kd.R_lower (Kd.R_new' (Kd.R_new' ho27 (Kd.R_lt (dR_ HO122))) (Kd.R_lt (dR_ HO125))) (below_size (dL1_ HB GE111)))
                        replace HO122 := Aside0.mk (Kd.R_elder' (dR_ HO122) (Kd.R_base ho27) hb)
                        replace HO125 := Aside0.mk (Kd.R_elder' (dR_ HO125) (Kd.R_base ho27) hb)
                        replace BK111 := Aside0.mk (blk_below (g := gb111) (o := .cells #[.int .i64 0, .int .i64 0, .int .i64 0, .slice none 0 0, .slice none 0 0, .slice none 0 0, .slice none 0 0, .int .i64 0, .int .i64 0, .bool false] 25 (0, 0)) (dB_ BK111) hb)
                        replace HB := Aside0.mk (below_step (dL1_ HB GE111) hb)
                        clear hb ho27
                        refine hK.out _ _ trivial (fun hHeld => ?_)
                        clear hK K
                        refine norm_ (a' := ?_) ?_ ?_
                        rotate_left
                        ·show Act.put _ (some 41) _ = _
                         simp only [Act.put, sI_, s0_, sS_, i64_w, i32_w]
                         rfl
                        exact norm_ nm_ (hJ3_7_9 (v115, v121, v124) _ ⟨(by (with_reducible repeat (first | apply Kd.R_alloc | apply Kd.R_drewN | apply Kd.R_drew)); exact Kd.R_mono HO116.out (fun _ hk => ⟨hk.1.2, hk.2⟩)), (by (with_reducible repeat (first | apply Kd.R_alloc | apply Kd.R_drewN | apply Kd.R_drew)); exact Kd.R_mono HO122.out (fun _ hk => ⟨hk.2, hk.1⟩)), (by (with_reducible repeat (first | apply Kd.R_alloc | apply Kd.R_drewN | apply Kd.R_drew)); exact Kd.R_mono HO125.out (fun _ hk => ⟨hk.2, hk.1⟩)), (dB_ BK111), (dL1_ HB GE111)⟩)
                       ·skip
                        refine Kd.R_make_step (Kd.int .i64) _ 3 (by rfl) (N := 43) rfl 23 _ _ rfl (((rd_T39 l0 a1).f2).length : Int) rfl rfl Try.underlying23 (.int .i64 0) 8 info3 rfl (by decide) (by omega) 0 (ok := fun _ => True) (okp := fun _ => True) rfl (fun _ hk => hk) trivial (of_decide_eq_true tW_) (Nat.le_trans (Nat.mul_le_mul_right _ (of_decide_eq_true tW_ : (((rd_T39 l0 a1).f2).length : Int).toNat ≤ 35184372088832)) (by omega)) (Below.refl _ _) (Nat.le_refl _) ?_
                        intro v118 w26 ho27 hb hg_ hnew_
                        clear hg_ hnew_
                        (first | rw [← Ny117.out] at ho27 | (simp only [Int.reduceToNat] at ho27; rw [← Ny117.out] at ho27))
                        have HO119 := Aside0.mk (Kd.R_lower (Kd.R_new' (Kd.R_new' ho27 (Kd.R_lt (dR_ HO122))) (Kd.R_lt (dR_ HO125))) (below_size (dL1_ HB GE111)))
                        replace HO122 := Aside0.mk (Kd.R_elder' (dR_ HO122) (Kd.R_base ho27) hb)
                        replace HO125 := Aside0.mk (Kd.R_elder' (dR_ HO125) (Kd.R_base ho27) hb)
                        replace BK111 := Aside0.mk (blk_below (g := gb111) (o := .cells #[.int .i64 0, .int .i64 0, .int .i64 0, .slice none 0 0, .slice none 0 0, .slice none 0 0, .slice none 0 0, .int .i64 0, .int .i64 0, .bool false] 25 (0, 0)) (dB_ BK111) hb)
                        replace HB := Aside0.mk (below_step (dL1_ HB GE111) hb)
                        clear hb ho27
                        refine hK.out _ _ trivial (fun hHeld => ?_)
                        clear hK K
                        refine norm_ (a' := ?_) ?_ ?_
                        rotate_left
                        ·show Act.put _ (some 43) _ = _
                         simp only [Act.put, sI_, s0_, sS_, i64_w, i32_w]
                         rfl
                        exact norm_ nm_ (hJ5_7_9 (v118, v121, v124) _ ⟨(by (with_reducible repeat (first | apply Kd.R_alloc | apply Kd.R_drewN | apply Kd.R_drew)); exact Kd.R_mono HO119.out (fun _ hk => ⟨hk.1.2, hk.2⟩)), (by (with_reducible repeat (first | apply Kd.R_alloc | apply Kd.R_drewN | apply Kd.R_drew)); exact Kd.R_mono HO122.out (fun _ hk => ⟨hk.2, hk.1⟩)), (by (with_reducible repeat (first | apply Kd.R_alloc | apply Kd.R_drewN | apply Kd.R_drew)); exact Kd.R_mono HO125.out (fun _ hk => ⟨hk.2, hk.1⟩)), (dB_ BK111), (dL1_ HB GE111)⟩)
                     ·skip
                      rintro ⟨v118, v124⟩ w25 ⟨h0_, h1_, h2_, h3_⟩
                      have n0_ : Aside0 (Kd.R (Kd.int .i64) 3 w25 w.heap.size (fun k_ => some k_ ≠ (v124 : Value).ownBlock) v118 y117) := ⟨h0_⟩
                      have n1_ : Aside0 (Kd.R (Kd.int .i64) 3 w25 w.heap.size (fun k_ => some k_ ≠ (v118 : Value).ownBlock) v124 y123) := ⟨h1_⟩
                      have n2_ : Aside0 (w25.heap[gb111]? = some (.cells #[.int .i64 0, .int .i64 0, .int .i64 0, .slice none 0 0, .slice none 0 0, .slice none 0 0, .slice none 0 0, .int .i64 0, .int .i64 0, .bool false] 25 (0, 0))) := ⟨h2_⟩
                      have n3_ : Aside0 (Below w.heap.size w w25) := ⟨h3_⟩
                      clear BK111
                      clear HB
                      clear h0_ h1_ h2_ h3_
                      have HO119 := n0_
                      have HO125 := n1_
                      have BK111 := n2_
                      have HB := n3_
                      clear n0_ n1_ n2_ n3_
                      have hHeld := trivial
                      refine norm_ (a' := ?_) ?_ ?_; rotate_left; (simp only [putAll, Act.put, sI_, s0_, sS_]; rfl)
                      refine two_ (i := 3) (j := 7) (Ni := some 41) (Nj := some 45) #[true, true, true, true, true, true, true, false, true, true, false, false, false] #[true, true, true, false, true, true, true, true, true, true, false, false, false] rfl rfl rfl rfl (two_of HT_.out (by kernel_rfl)) (by decide) (by decide) (fun K hK => ?_) (fun K hK => ?_)
                      ·skip
                       refine Kd.R_make_step (Kd.int .i64) _ 3 (by rfl) (N := 41) rfl 23 _ _ rfl (((rd_T39 l0 a1).f2).length : Int) rfl rfl Try.underlying23 (.int .i64 0) 8 info3 rfl (by decide) (by omega) 0 (ok := fun _ => True) (okp := fun _ => True) rfl (fun _ hk => hk) trivial (of_decide_eq_true tW_) (Nat.le_trans (Nat.mul_le_mul_right _ (of_decide_eq_true tW_ : (((rd_T39 l0 a1).f2).length : Int).toNat ≤ 35184372088832)) (by omega)) (Below.refl _ _) (Nat.le_refl _) ?_
                       intro v115 w26 ho27 hb hg_ hnew_
                       clear hg_ hnew_
                       (first | rw [← Ny114.out] at ho27 | (simp only [Int.reduceToNat] at ho27; rw [← Ny114.out] at ho27))
                       have HO116 := Aside0.mk (Kd.R_lower (Kd.R_new' (Kd.R_new' ho27 (Kd.R_lt (dR_ HO119))) (Kd.R_lt (dR_ HO125))) (below_size (dL1_ HB GE111)))
                       replace HO119 := Aside0.mk (Kd.R_elder' (dR_ HO119) (Kd.R_base ho27) hb)
                       replace HO125 := Aside0.mk (Kd.R_elder' (dR_ HO125) (Kd.R_base ho27) hb)
                       replace BK111 := Aside0.mk (blk_below (g := gb111) (o := .cells #[.int .i64 0, .int .i64 0, .int .i64 0, .slice none 0 0, .slice none 0 0, .slice none 0 0, .slice none 0 0, .int .i64 0, .int .i64 0, .bool false] 25 (0, 0)) (dB_ BK111) hb)
                       replace HB := Aside0.mk (below_step (dL1_ HB GE111) hb)
                       clear hb ho27
                       refine hK.out _ _ trivial (fun hHeld => ?_)
                       clear hK K
                       refine norm_ (a' := ?_) ?_ ?_
                       rotate_left
                       ·show Act.put _ (some 41) _ = _
                        simp only [Act.put, sI_, s0_, sS_, i64_w, i32_w]
                        rfl
                       exact norm_ nm_ (hJ3_5_9 (v115, v118, v124) _ ⟨(by (with_reducible repeat (first | apply Kd.R_alloc | apply Kd.R_drewN | apply Kd.R_drew)); exact Kd.R_mono HO116.out (fun _ hk => ⟨hk.1.2, hk.2⟩)), (by (with_reducible repeat (first | apply Kd.R_alloc | apply Kd.R_drewN | apply Kd.R_drew)); exact Kd.R_mono HO119.out (fun _ hk => ⟨hk.2, hk.1⟩)), (by (with_reducible repeat (first | apply Kd.R_alloc | apply Kd.R_drewN | apply Kd.R_drew)); exact Kd.R_mono HO125.out (fun _ hk => ⟨hk.2, hk.1⟩)), (dB_ BK111), (dL1_ HB GE111)⟩)
                      ·skip
                       refine Kd.R_make_step (Kd.int .i64) _ 3 (by rfl) (N := 45) rfl 23 _ _ rfl (((rd_T39 l0 a1).f2).length : Int) rfl rfl Try.underlying23 (.int .i64 0) 8 info3 rfl (by decide) (by omega) 0 (ok := fun _ => True) (okp := fun _ => True) rfl (fun _ hk => hk) trivial (of_decide_eq_true tW_) (Nat.le_trans (Nat.mul_le_mul_right _ (of_decide_eq_true tW_ : (((rd_T39 l0 a1).f2).length : Int).toNat ≤ 35184372088832)) (by omega)) (Below.refl _ _) (Nat.le_refl _) ?_
                       intro v121 w26 ho27 hb hg_ hnew_
                       clear hg_ hnew_
                       (first | rw [← Ny120.out] at ho27 | (simp only [Int.reduceToNat] at ho27; rw [← Ny120.out] at ho27))
                       have HO122 := Aside0.mk (Kd.R_lower (Kd.R_new' (Kd.R_new' ho27 (Kd.R_lt (dR_ HO119))) (Kd.R_lt (dR_ HO125))) (below_size (dL1_ HB GE111)))
                       replace HO119 := Aside0.mk (Kd.R_elder' (dR_ HO119) (Kd.R_base ho27) hb)
                       replace HO125 := Aside0.mk (Kd.R_elder' (dR_ HO125) (Kd.R_base ho27) hb)
                       replace BK111 := Aside0.mk (blk_below (g := gb111) (o := .cells #[.int .i64 0, .int .i64 0, .int .i64 0, .slice none 0 0, .slice none 0 0, .slice none 0 0, .slice none 0 0, .int .i64 0, .int .i64 0, .bool false] 25 (0, 0)) (dB_ BK111) hb)
                       replace HB := Aside0.mk (below_step (dL1_ HB GE111) hb)
                       clear hb ho27
                       refine hK.out _ _ trivial (fun hHeld => ?_)
                       clear hK K
                       refine norm_ (a' := ?_) ?_ ?_
                       rotate_left
                       ·show Act.put _ (some 45) _ = _
                        simp only [Act.put, sI_, s0_, sS_, i64_w, i32_w]
                        rfl
                       exact norm_ nm_ (hJ5_7_9 (v118, v121, v124) _ ⟨(by (with_reducible repeat (first | apply Kd.R_alloc | apply Kd.R_drewN | apply Kd.R_drew)); exact Kd.R_mono HO119.out (fun _ hk => ⟨hk.2, hk.1⟩)), (by (with_reducible repeat (first | apply Kd.R_alloc | apply Kd.R_drewN | apply Kd.R_drew)); exact Kd.R_mono HO122.out (fun _ hk => ⟨hk.1.2, hk.2⟩)), (dR_ HO125), (dB_ BK111), (dL1_ HB GE111)⟩)
                    ·skip
                     rintro ⟨v118, v121⟩ w25 ⟨h0_, h1_, h2_, h3_⟩
                     have n0_ : Aside0 (Kd.R (Kd.int .i64) 3 w25 w.heap.size (fun k_ => some k_ ≠ (v121 : Value).ownBlock) v118 y117) := ⟨h0_⟩
                     have n1_ : Aside0 (Kd.R (Kd.int .i64) 3 w25 w.heap.size (fun k_ => some k_ ≠ (v118 : Value).ownBlock) v121 y120) := ⟨h1_⟩
                     have n2_ : Aside0 (w25.heap[gb111]? = some (.cells #[.int .i64 0, .int .i64 0, .int .i64 0, .slice none 0 0, .slice none 0 0, .slice none 0 0, .slice none 0 0, .int .i64 0, .int .i64 0, .bool false] 25 (0, 0))) := ⟨h2_⟩
                     have n3_ : Aside0 (Below w.heap.size w w25) := ⟨h3_⟩
                     clear BK111
                     clear HB
                     clear h0_ h1_ h2_ h3_
                     have HO119 := n0_
                     have HO122 := n1_
                     have BK111 := n2_
                     have HB := n3_
                     clear n0_ n1_ n2_ n3_
                     have hHeld := trivial
                     refine norm_ (a' := ?_) ?_ ?_; rotate_left; (simp only [putAll, Act.put, sI_, s0_, sS_]; rfl)
                     refine two_ (i := 3) (j := 9) (Ni := some 41) (Nj := some 47) #[true, true, true, true, true, true, true, true, true, false, false, false, false] #[true, true, true, false, true, true, true, true, true, true, false, false, false] rfl rfl rfl rfl (two_of HT_.out (by kernel_rfl)) (by decide) (by decide) (fun K hK => ?_) (fun K hK => ?_)
                     ·skip
                      refine Kd.R_make_step (Kd.int .i64) _ 3 (by rfl) (N := 41) rfl 23 _ _ rfl (((rd_T39 l0 a1).f2).length : Int) rfl rfl Try.underlying23 (.int .i64 0) 8 info3 rfl (by decide) (by omega) 0 (ok := fun _ => True) (okp := fun _ => True) rfl (fun _ hk => hk) trivial (of_decide_eq_true tW_) (Nat.le_trans (Nat.mul_le_mul_right _ (of_decide_eq_true tW_ : (((rd_T39 l0 a1).f2).length : Int).toNat ≤ 35184372088832)) (by omega)) (Below.refl _ _) (Nat.le_refl _) ?_
                      intro v115 w26 ho27 hb hg_ hnew_
                      clear hg_ hnew_
                      (first | rw [← Ny114.out] at ho27 | (simp only [Int.reduceToNat] at ho27; rw [← Ny114.out] at ho27))
                      have HO116 := Aside0.mk (Kd.R_lower (Kd.R_new' (Kd.R_new' ho27 (Kd.R_lt (dR_ HO119))) (Kd.R_lt (dR_ HO122))) (below_size (dL1_ HB GE111)))
                      replace HO119 := Aside0.mk (Kd.R_elder' (dR_ HO119) (Kd.R_base ho27) hb)
                      replace HO122 := Aside0.mk (Kd.R_elder' (dR_ HO122) (Kd.R_base ho27) hb)
                      replace BK111 := Aside0.mk (blk_below (g := gb111) (o := .cells #[.int .i64 0, .int .i64 0, .int .i64 0, .slice none 0 0, .slice none 0 0, .slice none 0 0, .slice none 0 0, .int .i64 0, .int .i64 0, .bool false] 25 (0, 0)) (dB_ BK111) hb)
                      replace HB := Aside0.mk (below_step (dL1_ HB GE111) hb)
                      clear hb ho27
                      refine hK.out _ _ trivial (fun hHeld => ?_)
                      clear hK K
                      refine norm_ (a' := ?_) ?_ ?_
                      rotate_left
                      ·show Act.put _ (some 41) _ = _
                       simp only [Act.put, sI_, s0_, sS_, i64_w, i32_w]
                       rfl
                      exact norm_ nm_ (hJ3_5_7 (v115, v118, v121) _ ⟨(by (with_reducible repeat (first | apply Kd.R_alloc | apply Kd.R_drewN | apply Kd.R_drew)); exact Kd.R_mono HO116.out (fun _ hk => ⟨hk.1.2, hk.2⟩)), (by (with_reducible repeat (first | apply Kd.R_alloc | apply Kd.R_drewN | apply Kd.R_drew)); exact Kd.R_mono HO119.out (fun _ hk => ⟨hk.2, hk.1⟩)), (by (with_reducible repeat (first | apply Kd.R_alloc | apply Kd.R_drewN | apply Kd.R_drew)); exact Kd.R_mono HO122.out (fun _ hk => ⟨hk.2, hk.1⟩)), (dB_ BK111), (dL1_ HB GE111)⟩)
                     ·skip
                      refine Kd.R_make_step (Kd.int .i64) _ 3 (by rfl) (N := 47) rfl 23 _ _ rfl (((rd_T39 l0 a1).f2).length : Int) rfl rfl Try.underlying23 (.int .i64 0) 8 info3 rfl (by decide) (by omega) 0 (ok := fun _ => True) (okp := fun _ => True) rfl (fun _ hk => hk) trivial (of_decide_eq_true tW_) (Nat.le_trans (Nat.mul_le_mul_right _ (of_decide_eq_true tW_ : (((rd_T39 l0 a1).f2).length : Int).toNat ≤ 35184372088832)) (by omega)) (Below.refl _ _) (Nat.le_refl _) ?_
                      intro v124 w26 ho27 hb hg_ hnew_
                      clear hg_ hnew_
                      (first | rw [← Ny123.out] at ho27 | (simp only [Int.reduceToNat] at ho27; rw [← Ny123.out] at ho27))
                      have HO125 := Aside0.mk (Kd.R_lower (Kd.R_new' (Kd.R_new' ho27 (Kd.R_lt (dR_ HO119))) (Kd.R_lt (dR_ HO122))) (below_size (dL1_ HB GE111)))
                      replace HO119 := Aside0.mk (Kd.R_elder' (dR_ HO119) (Kd.R_base ho27) hb)
                      replace HO122 := Aside0.mk (Kd.R_elder' (dR_ HO122) (Kd.R_base ho27) hb)
                      replace BK111 := Aside0.mk (blk_below (g := gb111) (o := .cells #[.int .i64 0, .int .i64 0, .int .i64 0, .slice none 0 0, .slice none 0 0, .slice none 0 0, .slice none 0 0, .int .i64 0, .int .i64 0, .bool false] 25 (0, 0)) (dB_ BK111) hb)
                      replace HB := Aside0.mk (below_step (dL1_ HB GE111) hb)
                      clear hb ho27
                      refine hK.out _ _ trivial (fun hHeld => ?_)
                      clear hK K
                      refine norm_ (a' := ?_) ?_ ?_
                      rotate_left
                      ·show Act.put _ (some 47) _ = _
                       simp only [Act.put, sI_, s0_, sS_, i64_w, i32_w]
                       rfl
                      exact norm_ nm_ (hJ5_7_9 (v118, v121, v124) _ ⟨(dR_ HO119), (dR_ HO122), (by (with_reducible repeat (first | apply Kd.R_alloc | apply Kd.R_drewN | apply Kd.R_drew)); exact Kd.R_mono HO125.out (fun _ hk => ⟨hk.1.2, hk.2⟩)), (dB_ BK111), (dL1_ HB GE111)⟩)
                   ·skip
                    rintro ⟨v115, v124⟩ w25 ⟨h0_, h1_, h2_, h3_⟩
                    have n0_ : Aside0 (Kd.R (Kd.int .i64) 3 w25 w.heap.size (fun k_ => some k_ ≠ (v124 : Value).ownBlock) v115 y114) := ⟨h0_⟩
                    have n1_ : Aside0 (Kd.R (Kd.int .i64) 3 w25 w.heap.size (fun k_ => some k_ ≠ (v115 : Value).ownBlock) v124 y123) := ⟨h1_⟩
                    have n2_ : Aside0 (w25.heap[gb111]? = some (.cells #[.int .i64 0, .int .i64 0, .int .i64 0, .slice none 0 0, .slice none 0 0, .slice none 0 0, .slice none 0 0, .int .i64 0, .int .i64 0, .bool false] 25 (0, 0))) := ⟨h2_⟩
                    have n3_ : Aside0 (Below w.heap.size w w25) := ⟨h3_⟩
                    clear BK111
                    clear HB
                    clear h0_ h1_ h2_ h3_
                    have HO116 := n0_
                    have HO125 := n1_
                    have BK111 := n2_
                    have HB := n3_
                    clear n0_ n1_ n2_ n3_
                    have hHeld := trivial
                    refine norm_ (a' := ?_) ?_ ?_; rotate_left; (simp only [putAll, Act.put, sI_, s0_, sS_]; rfl)
                    refine two_ (i := 5) (j := 7) (Ni := some 43) (Nj := some 45) #[true, true, true, true, true, true, true, false, true, true, false, false, false] #[true, true, true, true, true, false, true, true, true, true, false, false, false] rfl rfl rfl rfl (two_of HT_.out (by kernel_rfl)) (by decide) (by decide) (fun K hK => ?_) (fun K hK => ?_)
                    ·skip
                     refine Kd.R_make_step (Kd.int .i64) _ 3 (by rfl) (N := 43) rfl 23 _ _ rfl (((rd_T39 l0 a1).f2).length : Int) rfl rfl Try.underlying23 (.int .i64 0) 8 info3 rfl (by decide) (by omega) 0 (ok := fun _ => True) (okp := fun _ => True) rfl (fun _ hk => hk) trivial (of_decide_eq_true tW_) (Nat.le_trans (Nat.mul_le_mul_right _ (of_decide_eq_true tW_ : (((rd_T39 l0 a1).f2).length : Int).toNat ≤ 35184372088832)) (by omega)) (Below.refl _ _) (Nat.le_refl _) ?_
                     intro v118 w26 ho27 hb hg_ hnew_
                     clear hg_ hnew_
                     (first | rw [← Ny117.out] at ho27 | (simp only [Int.reduceToNat] at ho27; rw [← Ny117.out] at ho27))
                     have HO119 := Aside0.mk (Kd.R_lower (Kd.R_new' (Kd.R_new' ho27 (Kd.R_lt (dR_ HO116))) (Kd.R_lt (dR_ HO125))) (below_size (dL1_ HB GE111)))
                     replace HO116 := Aside0.mk (Kd.R_elder' (dR_ HO116) (Kd.R_base ho27) hb)
                     replace HO125 := Aside0.mk (Kd.R_elder' (dR_ HO125) (Kd.R_base ho27) hb)
                     replace BK111 := Aside0.mk (blk_below (g := gb111) (o := .cells #[.int .i64 0, .int .i64 0, .int .i64 0, .slice none 0 0, .slice none 0 0, .slice none 0 0, .slice none 0 0, .int .i64 0, .int .i64 0, .bool false] 25 (0, 0)) (dB_ BK111) hb)
                     replace HB := Aside0.mk (below_step (dL1_ HB GE111) hb)
                     clear hb ho27
                     refine hK.out _ _ trivial (fun hHeld => ?_)
                     clear hK K
                     refine norm_ (a' := ?_) ?_ ?_
                     rotate_left
                     ·show Act.put _ (some 43) _ = _
                      simp only [Act.put, sI_, s0_, sS_, i64_w, i32_w]
                      rfl
                     exact norm_ nm_ (hJ3_5_9 (v115, v118, v124) _ ⟨(by (with_reducible repeat (first | apply Kd.R_alloc | apply Kd.R_drewN | apply Kd.R_drew)); exact Kd.R_mono HO116.out (fun _ hk => ⟨hk.2, hk.1⟩)), (by (with_reducible repeat (first | apply Kd.R_alloc | apply Kd.R_drewN | apply Kd.R_drew)); exact Kd.R_mono HO119.out (fun _ hk => ⟨hk.1.2, hk.2⟩)), (dR_ HO125), (dB_ BK111), (dL1_ HB GE111)⟩)
                    ·skip
                     refine Kd.R_make_step (Kd.int .i64) _ 3 (by rfl) (N := 45) rfl 23 _ _ rfl (((rd_T39 l0 a1).f2).length : Int) rfl rfl Try.underlying23 (.int .i64 0) 8 info3 rfl (by decide) (by omega) 0 (ok := fun _ => True) (okp := fun _ => True) rfl (fun _ hk => hk) trivial (of_decide_eq_true tW_) (Nat.le_trans (Nat.mul_le_mul_right _ (of_decide_eq_true tW_ : (((rd_T39 l0 a1).f2).length : Int).toNat ≤ 35184372088832)) (by omega)) (Below.refl _ _) (Nat.le_refl _) ?_
                     intro v121 w26 ho27 hb hg_ hnew_
                     clear hg_ hnew_
                     (first | rw [← Ny120.out] at ho27 | (simp only [Int.reduceToNat] at ho27; rw [← Ny120.out] at ho27))
                     have HO122 := Aside0.mk (Kd.R_lower (Kd.R_new' (Kd.R_new' ho27 (Kd.R_lt (dR_ HO116))) (Kd.R_lt (dR_ HO125))) (below_size (dL1_ HB GE111)))
                     replace HO116 := Aside0.mk (Kd.R_elder' (dR_ HO116) (Kd.R_base ho27) hb)
                     replace HO125 := Aside0.mk (Kd.R_elder' (dR_ HO125) (Kd.R_base ho27) hb)
                     replace BK111 := Aside0.mk (blk_below (g := gb111) (o := .cells #[.int .i64 0, .int .i64 0, .int .i64 0, .slice none 0 0, .slice none 0 0, .slice none 0 0, .slice none 0 0, .int .i64 0, .int .i64 0, .bool false] 25 (0, 0)) (dB_ BK111) hb)
                     replace HB := Aside0.mk (below_step (dL1_ HB GE111) hb)
                     clear hb ho27
                     refine hK.out _ _ trivial (fun hHeld => ?_)
                     clear hK K
                     refine norm_ (a' := ?_) ?_ ?_
                     rotate_left
                     ·show Act.put _ (some 45) _ = _
                      simp only [Act.put, sI_, s0_, sS_, i64_w, i32_w]
                      rfl
                     exact norm_ nm_ (hJ3_7_9 (v115, v121, v124) _ ⟨(by (with_reducible repeat (first | apply Kd.R_alloc | apply Kd.R_drewN | apply Kd.R_drew)); exact Kd.R_mono HO116.out (fun _ hk => ⟨hk.2, hk.1⟩)), (by (with_reducible repeat (first | apply Kd.R_alloc | apply Kd.R_drewN | apply Kd.R_drew)); exact Kd.R_mono HO122.out (fun _ hk => ⟨hk.1.2, hk.2⟩)), (dR_ HO125), (dB_ BK111), (dL1_ HB GE111)⟩)
                  ·skip
                   rintro ⟨v115, v121⟩ w25 ⟨h0_, h1_, h2_, h3_⟩
                   have n0_ : Aside0 (Kd.R (Kd.int .i64) 3 w25 w.heap.size (fun k_ => some k_ ≠ (v121 : Value).ownBlock) v115 y114) := ⟨h0_⟩
                   have n1_ : Aside0 (Kd.R (Kd.int .i64) 3 w25 w.heap.size (fun k_ => some k_ ≠ (v115 : Value).ownBlock) v121 y120) := ⟨h1_⟩
                   have n2_ : Aside0 (w25.heap[gb111]? = some (.cells #[.int .i64 0, .int .i64 0, .int .i64 0, .slice none 0 0, .slice none 0 0, .slice none 0 0, .slice none 0 0, .int .i64 0, .int .i64 0, .bool false] 25 (0, 0))) := ⟨h2_⟩
                   have n3_ : Aside0 (Below w.heap.size w w25) := ⟨h3_⟩
                   clear BK111
                   clear HB
                   clear h0_ h1_ h2_ h3_
                   have HO116 := n0_
                   have HO122 := n1_
                   have BK111 := n2_
                   have HB := n3_
                   clear n0_ n1_ n2_ n3_
                   have hHeld := trivial
                   refine norm_ (a' := ?_) ?_ ?_; rotate_left; (simp only [putAll, Act.put, sI_, s0_, sS_]; rfl)
                   refine two_ (i := 5) (j := 9) (Ni := some 43) (Nj := some 47) #[true, true, true, true, true, true, true, true, true, false, false, false, false] #[true, true, true, true, true, false, true, true, true, true, false, false, false] rfl rfl rfl rfl (two_of HT_.out (by kernel_rfl)) (by decide) (by decide) (fun K hK => ?_) (fun K hK => ?_)
                   ·skip
                    refine Kd.R_make_step (Kd.int .i64) _ 3 (by rfl) (N := 43) rfl 23 _ _ rfl (((rd_T39 l0 a1).f2).length : Int) rfl rfl Try.underlying23 (.int .i64 0) 8 info3 rfl (by decide) (by omega) 0 (ok := fun _ => True) (okp := fun _ => True) rfl (fun _ hk => hk) trivial (of_decide_eq_true tW_) (Nat.le_trans (Nat.mul_le_mul_right _ (of_decide_eq_true tW_ : (((rd_T39 l0 a1).f2).length : Int).toNat ≤ 35184372088832)) (by omega)) (Below.refl _ _) (Nat.le_refl _) ?_
                    intro v118 w26 ho27 hb hg_ hnew_
                    clear hg_ hnew_
                    (first | rw [← Ny117.out] at ho27 | (simp only [Int.reduceToNat] at ho27; rw [← Ny117.out] at ho27))
                    have HO119 := Aside0.mk (Kd.R_lower (Kd.R_new' (Kd.R_new' ho27 (Kd.R_lt (dR_ HO116))) (Kd.R_lt (dR_ HO122))) (below_size (dL1_ HB GE111)))
                    replace HO116 := Aside0.mk (Kd.R_elder' (dR_ HO116) (Kd.R_base ho27) hb)
                    replace HO122 := Aside0.mk (Kd.R_elder' (dR_ HO122) (Kd.R_base ho27) hb)
                    replace BK111 := Aside0.mk (blk_below (g := gb111) (o := .cells #[.int .i64 0, .int .i64 0, .int .i64 0, .slice none 0 0, .slice none 0 0, .slice none 0 0, .slice none 0 0, .int .i64 0, .int .i64 0, .bool false] 25 (0, 0)) (dB_ BK111) hb)
                    replace HB := Aside0.mk (below_step (dL1_ HB GE111) hb)
                    clear hb ho27
                    refine hK.out _ _ trivial (fun hHeld => ?_)
                    clear hK K
                    refine norm_ (a' := ?_) ?_ ?_
                    rotate_left
                    ·show Act.put _ (some 43) _ = _
                     simp only [Act.put, sI_, s0_, sS_, i64_w, i32_w]
                     rfl
                    exact norm_ nm_ (hJ3_5_7 (v115, v118, v121) _ ⟨(by (with_reducible repeat (first | apply Kd.R_alloc | apply Kd.R_drewN | apply Kd.R_drew)); exact Kd.R_mono HO116.out (fun _ hk => ⟨hk.2, hk.1⟩)), (by (with_reducible repeat (first | apply Kd.R_alloc | apply Kd.R_drewN | apply Kd.R_drew)); exact Kd.R_mono HO119.out (fun _ hk => ⟨hk.1.2, hk.2⟩)), (dR_ HO122), (dB_ BK111), (dL1_ HB GE111)⟩)
                   ·skip
                    refine Kd.R_make_step (Kd.int .i64) _ 3 (by rfl) (N := 47) rfl 23 _ _ rfl (((rd_T39 l0 a1).f2).length : Int) rfl rfl Try.underlying23 (.int .i64 0) 8 info3 rfl (by decide) (by omega) 0 (ok := fun _ => True) (okp := fun _ => True) rfl (fun _ hk => hk) trivial (of_decide_eq_true tW_) (Nat.le_trans (Nat.mul_le_mul_right _ (of_decide_eq_true tW_ : (((rd_T39 l0 a1).f2).length : Int).toNat ≤ 35184372088832)) (by omega)) (Below.refl _ _) (Nat.le_refl _) ?_
                    intro v124 w26 ho27 hb hg_ hnew_
                    clear hg_ hnew_
                    (first | rw [← Ny123.out] at ho27 | (simp only [Int.reduceToNat] at ho27; rw [← Ny123.out] at ho27))
                    have HO125 := Aside0.mk (Kd.R_lower (Kd.R_new' (Kd.R_new' ho27 (Kd.R_lt (dR_ HO116))) (Kd.R_lt (dR_ HO122))) (below_size (dL1_ HB GE111)))
                    replace HO116 := Aside0.mk (Kd.R_elder' (dR_ HO116) (Kd.R_base ho27) hb)
                    replace HO122 := Aside0.mk (Kd.R_elder' (dR_ HO122) (Kd.R_base ho27) hb)
                    replace BK111 := Aside0.mk (blk_below (g := gb111) (o := .cells #[.int .i64 0, .int .i64 0, .int .i64 0, .slice none 0 0, .slice none 0 0, .slice none 0 0, .slice none 0 0, .int .i64 0, .int .i64 0, .bool false] 25 (0, 0)) (dB_ BK111) hb)
                    replace HB := Aside0.mk (below_step (dL1_ HB GE111) hb)
                    clear hb ho27
                    refine hK.out _ _ trivial (fun hHeld => ?_)
                    clear hK K
                    refine norm_ (a' := ?_) ?_ ?_
                    rotate_left
                    ·show Act.put _ (some 47) _ = _
                     simp only [Act.put, sI_, s0_, sS_, i64_w, i32_w]
                     rfl
                    exact norm_ nm_ (hJ3_7_9 (v115, v121, v124) _ ⟨(dR_ HO116), (dR_ HO122), (by (with_reducible repeat (first | apply Kd.R_alloc | apply Kd.R_drewN | apply Kd.R_drew)); exact Kd.R_mono HO125.out (fun _ hk => ⟨hk.1.2, hk.2⟩)), (dB_ BK111), (dL1_ HB GE111)⟩)
                 ·skip
                  rintro ⟨v115, v118⟩ w25 ⟨h0_, h1_, h2_, h3_⟩
                  have n0_ : Aside0 (Kd.R (Kd.int .i64) 3 w25 w.heap.size (fun k_ => some k_ ≠ (v118 : Value).ownBlock) v115 y114) := ⟨h0_⟩
                  have n1_ : Aside0 (Kd.R (Kd.int .i64) 3 w25 w.heap.size (fun k_ => some k_ ≠ (v115 : Value).ownBlock) v118 y117) := ⟨h1_⟩
                  have n2_ : Aside0 (w25.heap[gb111]? = some (.cells #[.int .i64 0, .int .i64 0, .int .i64 0, .slice none 0 0, .slice none 0 0, .slice none 0 0, .slice none 0 0, .int .i64 0, .int .i64 0, .bool false] 25 (0, 0))) := ⟨h2_⟩
                  have n3_ : Aside0 (Below w.heap.size w w25) := ⟨h3_⟩
                  clear BK111
                  clear HB
                  clear h0_ h1_ h2_ h3_
                  have HO116 := n0_
                  have HO119 := n1_
                  have BK111 := n2_
                  have HB := n3_
                  clear n0_ n1_ n2_ n3_
                  have hHeld := trivial
                  refine norm_ (a' := ?_) ?_ ?_; rotate_left; (simp only [putAll, Act.put, sI_, s0_, sS_]; rfl)
                  refine two_ (i := 7) (j := 9) (Ni := some 45) (Nj := some 47) #[true, true, true, true, true, true, true, true, true, false, false, false, false] #[true, true, true, true, true, true, true, false, true, true, false, false, false] rfl rfl rfl rfl (two_of HT_.out (by kernel_rfl)) (by decide) (by decide) (fun K hK => ?_) (fun K hK => ?_)
                  ·skip
                   refine Kd.R_make_step (Kd.int .i64) _ 3 (by rfl) (N := 45) rfl 23 _ _ rfl (((rd_T39 l0 a1).f2).length : Int) rfl rfl Try.underlying23 (.int .i64 0) 8 info3 rfl (by decide) (by omega) 0 (ok := fun _ => True) (okp := fun _ => True) rfl (fun _ hk => hk) trivial (of_decide_eq_true tW_) (Nat.le_trans (Nat.mul_le_mul_right _ (of_decide_eq_true tW_ : (((rd_T39 l0 a1).f2).length : Int).toNat ≤ 35184372088832)) (by omega)) (Below.refl _ _) (Nat.le_refl _) ?_
                   intro v121 w26 ho27 hb hg_ hnew_
                   clear hg_ hnew_
                   (first | rw [← Ny120.out] at ho27 | (simp only [Int.reduceToNat] at ho27; rw [← Ny120.out] at ho27))
                   have HO122 := Aside0.mk (Kd.R_lower (Kd.R_new' (Kd.R_new' ho27 (Kd.R_lt (dR_ HO116))) (Kd.R_lt (dR_ HO119))) (below_size (dL1_ HB GE111)))
                   replace HO116 := Aside0.mk (Kd.R_elder' (dR_ HO116) (Kd.R_base ho27) hb)
                   replace HO119 := Aside0.mk (Kd.R_elder' (dR_ HO119) (Kd.R_base ho27) hb)
                   replace BK111 := Aside0.mk (blk_below (g := gb111) (o := .cells #[.int .i64 0, .int .i64 0, .int .i64 0, .slice none 0 0, .slice none 0 0, .slice none 0 0, .slice none 0 0, .int .i64 0, .int .i64 0, .bool false] 25 (0, 0)) (dB_ BK111) hb)
                   replace HB := Aside0.mk (below_step (dL1_ HB GE111) hb)
                   clear hb ho27
                   refine hK.out _ _ trivial (fun hHeld => ?_)
                   clear hK K
                   refine norm_ (a' := ?_) ?_ ?_
                   rotate_left
                   ·show Act.put _ (some 45) _ = _
                    simp only [Act.put, sI_, s0_, sS_, i64_w, i32_w]
                    rfl
                   exact norm_ nm_ (hJ3_5_7 (v115, v118, v121) _ ⟨(dR_ HO116), (dR_ HO119), (by (with_reducible repeat (first | apply Kd.R_alloc | apply Kd.R_drewN | apply Kd.R_drew)); exact Kd.R_mono HO122.out (fun _ hk => ⟨hk.1.2, hk.2⟩)), (dB_ BK111), (dL1_ HB GE111)⟩)
                  ·skip
                   refine Kd.R_make_step (Kd.int .i64) _ 3 (by rfl) (N := 47) rfl 23 _ _ rfl (((rd_T39 l0 a1).f2).length : Int) rfl rfl Try.underlying23 (.int .i64 0) 8 info3 rfl (by decide) (by omega) 0 (ok := fun _ => True) (okp := fun _ => True) rfl (fun _ hk => hk) trivial (of_decide_eq_true tW_) (Nat.le_trans (Nat.mul_le_mul_right _ (of_decide_eq_true tW_ : (((rd_T39 l0 a1).f2).length : Int).toNat ≤ 35184372088832)) (by omega)) (Below.refl _ _) (Nat.le_refl _) ?_
                   intro v124 w26 ho27 hb hg_ hnew_
                   clear hg_ hnew_
                   (first | rw [← Ny123.out] at ho27 | (simp only [Int.reduceToNat] at ho27; rw [← Ny123.out] at ho27))
                   have HO125 := Aside0.mk (Kd.R_lower (Kd.R_new' (Kd.R_new' ho27 (Kd.R_lt (dR_ HO116))) (Kd.R_lt (dR_ HO119))) (below_size (dL1_ HB GE111)))
                   replace HO116 := Aside0.mk (Kd.R_elder' (dR_ HO116) (Kd.R_base ho27) hb)
                   replace HO119 := Aside0.mk (Kd.R_elder' (dR_ HO119) (Kd.R_base ho27) hb)
                   replace BK111 := Aside0.mk (blk_below (g := gb111) (o := .cells #[.int .i64 0, .int .i64 0, .int .i64 0, .slice none 0 0, .slice none 0 0, .slice none 0 0, .slice none 0 0, .int .i64 0, .int .i64 0, .bool false] 25 (0, 0)) (dB_ BK111) hb)
                   replace HB := Aside0.mk (below_step (dL1_ HB GE111) hb)
                   clear hb ho27
                   refine hK.out _ _ trivial (fun hHeld => ?_)
                   clear hK K
                   refine norm_ (a' := ?_) ?_ ?_
                   rotate_left
                   ·show Act.put _ (some 47) _ = _
                    simp only [Act.put, sI_, s0_, sS_, i64_w, i32_w]
                    rfl
                   exact norm_ nm_ (hJ3_5_9 (v115, v118, v124) _ ⟨(dR_ HO116), (dR_ HO119), (by (with_reducible repeat (first | apply Kd.R_alloc | apply Kd.R_drewN | apply Kd.R_drew)); exact Kd.R_mono HO125.out (fun _ hk => ⟨hk.1.2, hk.2⟩)), (dB_ BK111), (dL1_ HB GE111)⟩)
                ·skip
                 rintro ⟨v118, v121, v124⟩ w27 ⟨h0_, h1_, h2_, h3_, h4_⟩
                 have n0_ : Aside0 (Kd.R (Kd.int .i64) 3 w27 w.heap.size (fun k_ => some k_ ≠ (v121 : Value).ownBlock ∧ some k_ ≠ (v124 : Value).ownBlock) v118 y117) := ⟨h0_⟩
                 have n1_ : Aside0 (Kd.R (Kd.int .i64) 3 w27 w.heap.size (fun k_ => some k_ ≠ (v118 : Value).ownBlock ∧ some k_ ≠ (v124 : Value).ownBlock) v121 y120) := ⟨h1_⟩
                 have n2_ : Aside0 (Kd.R (Kd.int .i64) 3 w27 w.heap.size (fun k_ => some k_ ≠ (v118 : Value).ownBlock ∧ some k_ ≠ (v121 : Value).ownBlock) v124 y123) := ⟨h2_⟩
                 have n3_ : Aside0 (w27.heap[gb111]? = some (.cells #[.int .i64 0, .int .i64 0, .int .i64 0, .slice none 0 0, .slice none 0 0, .slice none 0 0, .slice none 0 0, .int .i64 0, .int .i64 0, .bool false] 25 (0, 0))) := ⟨h3_⟩
                 have n4_ : Aside0 (Below w.heap.size w w27) := ⟨h4_⟩
                 clear BK111
                 clear HB
                 clear h0_ h1_ h2_ h3_ h4_
                 have HO119 := n0_
                 have HO122 := n1_
                 have HO125 := n2_
                 have BK111 := n3_
                 have HB := n4_
                 clear n0_ n1_ n2_ n3_ n4_
                 have hHeld := trivial
                 refine norm_ (a' := ?_) ?_ ?_; rotate_left; (simp only [putAll, Act.put, sI_, s0_, sS_]; rfl)
                 refine one_ (i := 3) (N := some 41) (bA 10 13) rfl rfl (one_of HT_.out (by kernel_rfl)) (by decide) (fun K hK => ?_)
                 refine Kd.R_make_step (Kd.int .i64) _ 3 (by rfl) (N := 41) rfl 23 _ _ rfl (((rd_T39 l0 a1).f2).length : Int) rfl rfl Try.underlying23 (.int .i64 0) 8 info3 rfl (by decide) (by omega) 0 (ok := fun _ => True) (okp := fun _ => True) rfl (fun _ hk => hk) trivial (of_decide_eq_true tW_) (Nat.le_trans (Nat.mul_le_mul_right _ (of_decide_eq_true tW_ : (((rd_T39 l0 a1).f2).length : Int).toNat ≤ 35184372088832)) (by omega)) (Below.refl _ _) (Nat.le_refl _) ?_
                 intro v115 w28 ho29 hb hg_ hnew_
                 clear hg_ hnew_
                 (first | rw [← Ny114.out] at ho29 | (simp only [Int.reduceToNat] at ho29; rw [← Ny114.out] at ho29))
                 have HO116 := Aside0.mk (Kd.R_lower (Kd.R_new' (Kd.R_new' (Kd.R_new' ho29 (Kd.R_lt (dR_ HO119))) (Kd.R_lt (dR_ HO122))) (Kd.R_lt (dR_ HO125))) (below_size (dL1_ HB GE111)))
                 replace HO119 := Aside0.mk (Kd.R_elder' (dR_ HO119) (Kd.R_base ho29) hb)
                 replace HO122 := Aside0.mk (Kd.R_elder' (dR_ HO122) (Kd.R_base ho29) hb)
                 replace HO125 := Aside0.mk (Kd.R_elder' (dR_ HO125) (Kd.R_base ho29) hb)
                 replace BK111 := Aside0.mk (blk_below (g := gb111) (o := .cells #[.int .i64 0, .int .i64 0, .int .i64 0, .slice none 0 0, .slice none 0 0, .slice none 0 0, .slice none 0 0, .int .i64 0, .int .i64 0, .bool false] 25 (0, 0)) (dB_ BK111) hb)
                 replace HB := Aside0.mk (below_step (dL1_ HB GE111) hb)
                 clear hb ho29
                 obtain ⟨Ao30, co30, eo30⟩ := Kd.R_slice HO125.out
                 (first | subst eo30 | (injection eo30 with f1_ f2_ f3_; have f4_ := f1_.symm; have f5_ := f3_.symm; clear f1_ f2_ f3_; subst f4_; subst f5_))
                 obtain ⟨Ao31, co31, eo31⟩ := Kd.R_slice HO122.out
                 (first | subst eo31 | (injection eo31 with f1_ f2_ f3_; have f4_ := f1_.symm; have f5_ := f3_.symm; clear f1_ f2_ f3_; subst f4_; subst f5_))
                 obtain ⟨Ao32, co32, eo32⟩ := Kd.R_slice HO119.out
                 (first | subst eo32 | (injection eo32 with f1_ f2_ f3_; have f4_ := f1_.symm; have f5_ := f3_.symm; clear f1_ f2_ f3_; subst f4_; subst f5_))
                 obtain ⟨Ao33, co33, eo33⟩ := Kd.R_slice HO116.out
                 (first | subst eo33 | (injection eo33 with f1_ f2_ f3_; have f4_ := f1_.symm; have f5_ := f3_.symm; clear f1_ f2_ f3_; subst f4_; subst f5_))
                 refine hK.out _ _ trivial (fun hHeld => ?_)
                 clear hK K
                 refine norm_ (a' := ?_) ?_ ?_
                 rotate_left
                 ·show Act.put _ (some 41) _ = _
                  simp only [Act.put, sI_, s0_, sS_, i64_w, i32_w]
                  rfl
                 exact norm_ nm_ (hJ3_5_7_9 (.slice Ao33 y114.length co33, .slice Ao32 y117.length co32, .slice Ao31 y120.length co31, .slice Ao30 y123.length co30) _ ⟨(by (with_reducible repeat (first | apply Kd.R_alloc | apply Kd.R_drewN | apply Kd.R_drew)); exact Kd.R_mono HO116.out (fun _ hk => ⟨hk.1.1.2, ⟨hk.1.2, hk.2⟩⟩)), (by (with_reducible repeat (first | apply Kd.R_alloc | apply Kd.R_drewN | apply Kd.R_drew)); exact Kd.R_mono HO119.out (fun _ hk => ⟨hk.2, ⟨hk.1.1, hk.1.2⟩⟩)), (by (with_reducible repeat (first | apply Kd.R_alloc | apply Kd.R_drewN | apply Kd.R_drew)); exact Kd.R_mono HO122.out (fun _ hk => ⟨hk.2, ⟨hk.1.1, hk.1.2⟩⟩)), (by (with_reducible repeat (first | apply Kd.R_alloc | apply Kd.R_drewN | apply Kd.R_drew)); exact Kd.R_mono HO125.out (fun _ hk => ⟨hk.2, ⟨hk.1.1, hk.1.2⟩⟩)), (dB_ BK111), (dL1_ HB GE111)⟩)
               ·skip
                rintro ⟨v115, v121, v124⟩ w27 ⟨h0_, h1_, h2_, h3_, h4_⟩
                have n0_ : Aside0 (Kd.R (Kd.int .i64) 3 w27 w.heap.size (fun k_ => some k_ ≠ (v121 : Value).ownBlock ∧ some k_ ≠ (v124 : Value).ownBlock) v115 y114) := ⟨h0_⟩
                have n1_ : Aside0 (Kd.R (Kd.int .i64) 3 w27 w.heap.size (fun k_ => some k_ ≠ (v115 : Value).ownBlock ∧ some k_ ≠ (v124 : Value).ownBlock) v121 y120) := ⟨h1_⟩
                have n2_ : Aside0 (Kd.R (Kd.int .i64) 3 w27 w.heap.size (fun k_ => some k_ ≠ (v115 : Value).ownBlock ∧ some k_ ≠ (v121 : Value).ownBlock) v124 y123) := ⟨h2_⟩
                have n3_ : Aside0 (w27.heap[gb111]? = some (.cells #[.int .i64 0, .int .i64 0, .int .i64 0, .slice none 0 0, .slice none 0 0, .slice none 0 0, .slice none 0 0, .int .i64 0, .int .i64 0, .bool false] 25 (0, 0))) := ⟨h3_⟩
                have n4_ : Aside0 (Below w.heap.size w w27) := ⟨h4_⟩
                clear BK111
                clear HB
                clear h0_ h1_ h2_ h3_ h4_
                have HO116 := n0_
                have HO122 := n1_
                have HO125 := n2_
                have BK111 := n3_
                have HB := n4_
                clear n0_ n1_ n2_ n3_ n4_
                have hHeld := trivial
                refine norm_ (a' := ?_) ?_ ?_; rotate_left; (simp only [putAll, Act.put, sI_, s0_, sS_]; rfl)
                refine one_ (i := 5) (N := some 43) (bA 10 13) rfl rfl (one_of HT_.out (by kernel_rfl)) (by decide) (fun K hK => ?_)
                refine Kd.R_make_step (Kd.int .i64) _ 3 (by rfl) (N := 43) rfl 23 _ _ rfl (((rd_T39 l0 a1).f2).length : Int) rfl rfl Try.underlying23 (.int .i64 0) 8 info3 rfl (by decide) (by omega) 0 (ok := fun _ => True) (okp := fun _ => True) rfl (fun _ hk => hk) trivial (of_decide_eq_true tW_) (Nat.le_trans (Nat.mul_le_mul_right _ (of_decide_eq_true tW_ : (((rd_T39 l0 a1).f2).length : Int).toNat ≤ 35184372088832)) (by omega)) (Below.refl _ _) (Nat.le_refl _) ?_
                intro v118 w28 ho29 hb hg_ hnew_
                clear hg_ hnew_
                (first | rw [← Ny117.out] at ho29 | (simp only [Int.reduceToNat] at ho29; rw [← Ny117.out] at ho29))
                have HO119 := Aside0.mk (Kd.R_lower (Kd.R_new' (Kd.R_new' (Kd.R_new' ho29 (Kd.R_lt (dR_ HO116))) (Kd.R_lt (dR_ HO122))) (Kd.R_lt (dR_ HO125))) (below_size (dL1_ HB GE111)))
                replace HO116 := Aside0.mk (Kd.R_elder' (dR_ HO116) (Kd.R_base ho29) hb)
                replace HO122 := Aside0.mk (Kd.R_elder' (dR_ HO122) (Kd.R_base ho29) hb)
                replace HO125 := Aside0.mk (Kd.R_elder' (dR_ HO125) (Kd.R_base ho29) hb)
                replace BK111 := Aside0.mk (blk_below (g := gb111) (o := .cells #[.int .i64 0, .int .i64 0, .int .i64 0, .slice none 0 0, .slice none 0 0, .slice none 0 0, .slice none 0 0, .int .i64 0, .int .i64 0, .bool false] 25 (0, 0)) (dB_ BK111) hb)
                replace HB := Aside0.mk (below_step (dL1_ HB GE111) hb)
                clear hb ho29
                obtain ⟨Ao30, co30, eo30⟩ := Kd.R_slice HO125.out
                (first | subst eo30 | (injection eo30 with f1_ f2_ f3_; have f4_ := f1_.symm; have f5_ := f3_.symm; clear f1_ f2_ f3_; subst f4_; subst f5_))
                obtain ⟨Ao31, co31, eo31⟩ := Kd.R_slice HO122.out
                (first | subst eo31 | (injection eo31 with f1_ f2_ f3_; have f4_ := f1_.symm; have f5_ := f3_.symm; clear f1_ f2_ f3_; subst f4_; subst f5_))
                obtain ⟨Ao32, co32, eo32⟩ := Kd.R_slice HO119.out
                (first | subst eo32 | (injection eo32 with f1_ f2_ f3_; have f4_ := f1_.symm; have f5_ := f3_.symm; clear f1_ f2_ f3_; subst f4_; subst f5_))
                obtain ⟨Ao33, co33, eo33⟩ := Kd.R_slice HO116.out
                (first | subst eo33 | (injection eo33 with f1_ f2_ f3_; have f4_ := f1_.symm; have f5_ := f3_.symm; clear f1_ f2_ f3_; subst f4_; subst f5_))
                refine hK.out _ _ trivial (fun hHeld => ?_)
                clear hK K
                refine norm_ (a' := ?_) ?_ ?_
                rotate_left
                ·show Act.put _ (some 43) _ = _
                 simp only [Act.put, sI_, s0_, sS_, i64_w, i32_w]
                 rfl
                exact norm_ nm_ (hJ3_5_7_9 (.slice Ao33 y114.length co33, .slice Ao32 y117.length co32, .slice Ao31 y120.length co31, .slice Ao30 y123.length co30) _ ⟨(by (with_reducible repeat (first | apply Kd.R_alloc | apply Kd.R_drewN | apply Kd.R_drew)); exact Kd.R_mono HO116.out (fun _ hk => ⟨hk.2, ⟨hk.1.1, hk.1.2⟩⟩)), (by (with_reducible repeat (first | apply Kd.R_alloc | apply Kd.R_drewN | apply Kd.R_drew)); exact Kd.R_mono HO119.out (fun _ hk => ⟨hk.1.1.2, ⟨hk.1.2, hk.2⟩⟩)), (by (with_reducible repeat (first | apply Kd.R_alloc | apply Kd.R_drewN | apply Kd.R_drew)); exact Kd.R_mono HO122.out (fun _ hk => ⟨hk.1.1, ⟨hk.2, hk.1.2⟩⟩)), (by (with_reducible repeat (first | apply Kd.R_alloc | apply Kd.R_drewN | apply Kd.R_drew)); exact Kd.R_mono HO125.out (fun _ hk => ⟨hk.1.1, ⟨hk.2, hk.1.2⟩⟩)), (dB_ BK111), (dL1_ HB GE111)⟩)
              ·skip
               rintro ⟨v115, v118, v124⟩ w27 ⟨h0_, h1_, h2_, h3_, h4_⟩
               have n0_ : Aside0 (Kd.R (Kd.int .i64) 3 w27 w.heap.size (fun k_ => some k_ ≠ (v118 : Value).ownBlock ∧ some k_ ≠ (v124 : Value).ownBlock) v115 y114) := ⟨h0_⟩
               have n1_ : Aside0 (Kd.R (Kd.int .i64) 3 w27 w.heap.size (fun k_ => some k_ ≠ (v115 : Value).ownBlock ∧ some k_ ≠ (v124 : Value).ownBlock) v118 y117) := ⟨h1_⟩
               have n2_ : Aside0 (Kd.R (Kd.int .i64) 3 w27 w.heap.size (fun k_ => some k_ ≠ (v115 : Value).ownBlock ∧ some k_ ≠ (v118 : Value).ownBlock) v124 y123) := ⟨h2_⟩
               have n3_ : Aside0 (w27.heap[gb111]? = some (.cells #[.int .i64 0, .int .i64 0, .int .i64 0, .slice none 0 0, .slice none 0 0, .slice none 0 0, .slice none 0 0, .int .i64 0, .int .i64 0, .bool false] 25 (0, 0))) := ⟨h3_⟩
               have n4_ : Aside0 (Below w.heap.size w w27) := ⟨h4_⟩
               clear BK111
               clear HB
               clear h0_ h1_ h2_ h3_ h4_
               have HO116 := n0_
               have HO119 := n1_
               have HO125 := n2_
               have BK111 := n3_
               have HB := n4_
               clear n0_ n1_ n2_ n3_ n4_
               have hHeld := trivial
               refine norm_ (a' := ?_) ?_ ?_; rotate_left; (simp only [putAll, Act.put, sI_, s0_, sS_]; rfl)
               refine one_ (i := 7) (N := some 45) (bA 10 13) rfl rfl (one_of HT_.out (by kernel_rfl)) (by decide) (fun K hK => ?_)
               refine Kd.R_make_step (Kd.int .i64) _ 3 (by rfl) (N := 45) rfl 23 _ _ rfl (((rd_T39 l0 a1).f2).length : Int) rfl rfl Try.underlying23 (.int .i64 0) 8 info3 rfl (by decide) (by omega) 0 (ok := fun _ => True) (okp := fun _ => True) rfl (fun _ hk => hk) trivial (of_decide_eq_true tW_) (Nat.le_trans (Nat.mul_le_mul_right _ (of_decide_eq_true tW_ : (((rd_T39 l0 a1).f2).length : Int).toNat ≤ 35184372088832)) (by omega)) (Below.refl _ _) (Nat.le_refl _) ?_
               intro v121 w28 ho29 hb hg_ hnew_
               clear hg_ hnew_
               (first | rw [← Ny120.out] at ho29 | (simp only [Int.reduceToNat] at ho29; rw [← Ny120.out] at ho29))
               have HO122 := Aside0.mk (Kd.R_lower (Kd.R_new' (Kd.R_new' (Kd.R_new' ho29 (Kd.R_lt (dR_ HO116))) (Kd.R_lt (dR_ HO119))) (Kd.R_lt (dR_ HO125))) (below_size (dL1_ HB GE111)))
               replace HO116 := Aside0.mk (Kd.R_elder' (dR_ HO116) (Kd.R_base ho29) hb)
               replace HO119 := Aside0.mk (Kd.R_elder' (dR_ HO119) (Kd.R_base ho29) hb)
               replace HO125 := Aside0.mk (Kd.R_elder' (dR_ HO125) (Kd.R_base ho29) hb)
               replace BK111 := Aside0.mk (blk_below (g := gb111) (o := .cells #[.int .i64 0, .int .i64 0, .int .i64 0, .slice none 0 0, .slice none 0 0, .slice none 0 0, .slice none 0 0, .int .i64 0, .int .i64 0, .bool false] 25 (0, 0)) (dB_ BK111) hb)
               replace HB := Aside0.mk (below_step (dL1_ HB GE111) hb)
               clear hb ho29
               obtain ⟨Ao30, co30, eo30⟩ := Kd.R_slice HO125.out
               (first | subst eo30 | (injection eo30 with f1_ f2_ f3_; have f4_ := f1_.symm; have f5_ := f3_.symm; clear f1_ f2_ f3_; subst f4_; subst f5_))
               obtain ⟨Ao31, co31, eo31⟩ := Kd.R_slice HO122.out
               (first | subst eo31 | (injection eo31 with f1_ f2_ f3_; have f4_ := f1_.symm; have f5_ := f3_.symm; clear f1_ f2_ f3_; subst f4_; subst f5_))
               obtain ⟨Ao32, co32, eo32⟩ := Kd.R_slice HO119.out
               (first | subst eo32 | (injection eo32 with f1_ f2_ f3_; have f4_ := f1_.symm; have f5_ := f3_.symm; clear f1_ f2_ f3_; subst f4_; subst f5_))
               obtain ⟨Ao33, co33, eo33⟩ := Kd.R_slice HO116.out
               (first | subst eo33 | (injection eo33 with f1_ f2_ f3_; have f4_ := f1_.symm; have f5_ := f3_.symm; clear f1_ f2_ f3_; subst f4_; subst f5_))
               refine hK.out _ _ trivial (fun hHeld => ?_)
               clear hK K
               refine norm_ (a' := ?_) ?_ ?_
               rotate_left
               ·show Act.put _ (some 45) _ = _
                simp only [Act.put, sI_, s0_, sS_, i64_w, i32_w]
                rfl
               exact norm_ nm_ (hJ3_5_7_9 (.slice Ao33 y114.length co33, .slice Ao32 y117.length co32, .slice Ao31 y120.length co31, .slice Ao30 y123.length co30) _ ⟨(by (with_reducible repeat (first | apply Kd.R_alloc | apply Kd.R_drewN | apply Kd.R_drew)); exact Kd.R_mono HO116.out (fun _ hk => ⟨hk.1.1, ⟨hk.2, hk.1.2⟩⟩)), (by (with_reducible repeat (first | apply Kd.R_alloc | apply Kd.R_drewN | apply Kd.R_drew)); exact Kd.R_mono HO119.out (fun _ hk => ⟨hk.1.1, ⟨hk.2, hk.1.2⟩⟩)), (by (with_reducible repeat (first | apply Kd.R_alloc | apply Kd.R_drewN | apply Kd.R_drew)); exact Kd.R_mono HO122.out (fun _ hk => ⟨hk.1.1.2, ⟨hk.1.2, hk.2⟩⟩)), (by (with_reducible repeat (first | apply Kd.R_alloc | apply Kd.R_drewN | apply Kd.R_drew)); exact Kd.R_mono HO125.out (fun _ hk => ⟨hk.1.1, ⟨hk.1.2, hk.2⟩⟩)), (dB_ BK111), (dL1_ HB GE111)⟩)
             ·skip
              rintro ⟨v115, v118, v121⟩ w27 ⟨h0_, h1_, h2_, h3_, h4_⟩
              have n0_ : Aside0 (Kd.R (Kd.int .i64) 3 w27 w.heap.size (fun k_ => some k_ ≠ (v118 : Value).ownBlock ∧ some k_ ≠ (v121 : Value).ownBlock) v115 y114) := ⟨h0_⟩
              have n1_ : Aside0 (Kd.R (Kd.int .i64) 3 w27 w.heap.size (fun k_ => some k_ ≠ (v115 : Value).ownBlock ∧ some k_ ≠ (v121 : Value).ownBlock) v118 y117) := ⟨h1_⟩
              have n2_ : Aside0 (Kd.R (Kd.int .i64) 3 w27 w.heap.size (fun k_ => some k_ ≠ (v115 : Value).ownBlock ∧ some k_ ≠ (v118 : Value).ownBlock) v121 y120) := ⟨h2_⟩
              have n3_ : Aside0 (w27.heap[gb111]? = some (.cells #[.int .i64 0, .int .i64 0, .int .i64 0, .slice none 0 0, .slice none 0 0, .slice none 0 0, .slice none 0 0, .int .i64 0, .int .i64 0, .bool false] 25 (0, 0))) := ⟨h3_⟩
              have n4_ : Aside0 (Below w.heap.size w w27) := ⟨h4_⟩
              clear BK111
              clear HB
              clear h0_ h1_ h2_ h3_ h4_
              have HO116 := n0_
              have HO119 := n1_
              have HO122 := n2_
              have BK111 := n3_
              have HB := n4_
              clear n0_ n1_ n2_ n3_ n4_
              have hHeld := trivial
              refine norm_ (a' := ?_) ?_ ?_; rotate_left; (simp only [putAll, Act.put, sI_, s0_, sS_]; rfl)
              refine one_ (i := 9) (N := some 47) (bA 10 13) rfl rfl (one_of HT_.out (by kernel_rfl)) (by decide) (fun K hK => ?_)
              refine Kd.R_make_step (Kd.int .i64) _ 3 (by rfl) (N := 47) rfl 23 _ _ rfl (((rd_T39 l0 a1).f2).length : Int) rfl rfl Try.underlying23 (.int .i64 0) 8 info3 rfl (by decide) (by omega) 0 (ok := fun _ => True) (okp := fun _ => True) rfl (fun _ hk => hk) trivial (of_decide_eq_true tW_) (Nat.le_trans (Nat.mul_le_mul_right _ (of_decide_eq_true tW_ : (((rd_T39 l0 a1).f2).length : Int).toNat ≤ 35184372088832)) (by omega)) (Below.refl _ _) (Nat.le_refl _) ?_
              intro v124 w28 ho29 hb hg_ hnew_
              clear hg_ hnew_
              (first | rw [← Ny123.out] at ho29 | (simp only [Int.reduceToNat] at ho29; rw [← Ny123.out] at ho29))
              have HO125 := Aside0.mk (Kd.R_lower (Kd.R_new' (Kd.R_new' (Kd.R_new' ho29 (Kd.R_lt (dR_ HO116))) (Kd.R_lt (dR_ HO119))) (Kd.R_lt (dR_ HO122))) (below_size (dL1_ HB GE111)))
              replace HO116 := Aside0.mk (Kd.R_elder' (dR_ HO116) (Kd.R_base ho29) hb)
              replace HO119 := Aside0.mk (Kd.R_elder' (dR_ HO119) (Kd.R_base ho29) hb)
              replace HO122 := Aside0.mk (Kd.R_elder' (dR_ HO122) (Kd.R_base ho29) hb)
              replace BK111 := Aside0.mk (blk_below (g := gb111) (o := .cells #[.int .i64 0, .int .i64 0, .int .i64 0, .slice none 0 0, .slice none 0 0, .slice none 0 0, .slice none 0 0, .int .i64 0, .int .i64 0, .bool false] 25 (0, 0)) (dB_ BK111) hb)
              replace HB := Aside0.mk (below_step (dL1_ HB GE111) hb)
              clear hb ho29
              obtain ⟨Ao30, co30, eo30⟩ := Kd.R_slice HO125.out
              (first | subst eo30 | (injection eo30 with f1_ f2_ f3_; have f4_ := f1_.symm; have f5_ := f3_.symm; clear f1_ f2_ f3_; subst f4_; subst f5_))
              obtain ⟨Ao31, co31, eo31⟩ := Kd.R_slice HO122.out
              (first | subst eo31 | (injection eo31 with f1_ f2_ f3_; have f4_ := f1_.symm; have f5_ := f3_.symm; clear f1_ f2_ f3_; subst f4_; subst f5_))
              obtain ⟨Ao32, co32, eo32⟩ := Kd.R_slice HO119.out
              (first | subst eo32 | (injection eo32 with f1_ f2_ f3_; have f4_ := f1_.symm; have f5_ := f3_.symm; clear f1_ f2_ f3_; subst f4_; subst f5_))
              obtain ⟨Ao33, co33, eo33⟩ := Kd.R_slice HO116.out
              (first | subst eo33 | (injection eo33 with f1_ f2_ f3_; have f4_ := f1_.symm; have f5_ := f3_.symm; clear f1_ f2_ f3_; subst f4_; subst f5_))
              refine hK.out _ _ trivial (fun hHeld => ?_)
              clear hK K
              refine norm_ (a' := ?_) ?_ ?_
              rotate_left
              ·show Act.put _ (some 47) _ = _
               simp only [Act.put, sI_, s0_, sS_, i64_w, i32_w]
               rfl
              exact norm_ nm_ (hJ3_5_7_9 (.slice Ao33 y114.length co33, .slice Ao32 y117.length co32, .slice Ao31 y120.length co31, .slice Ao30 y123.length co30) _ ⟨(by (with_reducible repeat (first | apply Kd.R_alloc | apply Kd.R_drewN | apply Kd.R_drew)); exact Kd.R_mono HO116.out (fun _ hk => ⟨hk.1.1, ⟨hk.1.2, hk.2⟩⟩)), (by (with_reducible repeat (first | apply Kd.R_alloc | apply Kd.R_drewN | apply Kd.R_drew)); exact Kd.R_mono HO119.out (fun _ hk => ⟨hk.1.1, ⟨hk.1.2, hk.2⟩⟩)), (by (with_reducible repeat (first | apply Kd.R_alloc | apply Kd.R_drewN | apply Kd.R_drew)); exact Kd.R_mono HO122.out (fun _ hk => ⟨hk.1.1, ⟨hk.1.2, hk.2⟩⟩)), (by (with_reducible repeat (first | apply Kd.R_alloc | apply Kd.R_drewN | apply Kd.R_drew)); exact Kd.R_mono HO125.out (fun _ hk => ⟨hk.1.1.2, ⟨hk.1.2, hk.2⟩⟩)), (dB_ BK111), (dL1_ HB GE111)⟩)
            rintro ⟨v115, v118, v121, v124⟩ w33 ⟨h0_, h1_, h2_, h3_, h4_, h5_⟩
            have n0_ : Aside0 (Kd.R (Kd.int .i64) 3 w33 w.heap.size (fun k_ => some k_ ≠ (v118 : Value).ownBlock ∧ some k_ ≠ (v121 : Value).ownBlock ∧ some k_ ≠ (v124 : Value).ownBlock) v115 y114) := ⟨h0_⟩
            have n1_ : Aside0 (Kd.R (Kd.int .i64) 3 w33 w.heap.size (fun k_ => some k_ ≠ (v115 : Value).ownBlock ∧ some k_ ≠ (v121 : Value).ownBlock ∧ some k_ ≠ (v124 : Value).ownBlock) v118 y117) := ⟨h1_⟩
            have n2_ : Aside0 (Kd.R (Kd.int .i64) 3 w33 w.heap.size (fun k_ => some k_ ≠ (v115 : Value).ownBlock ∧ some k_ ≠ (v118 : Value).ownBlock ∧ some k_ ≠ (v124 : Value).ownBlock) v121 y120) := ⟨h2_⟩
            have n3_ : Aside0 (Kd.R (Kd.int .i64) 3 w33 w.heap.size (fun k_ => some k_ ≠ (v115 : Value).ownBlock ∧ some k_ ≠ (v118 : Value).ownBlock ∧ some k_ ≠ (v121 : Value).ownBlock) v124 y123) := ⟨h3_⟩
            have n4_ : Aside0 (w33.heap[gb111]? = some (.cells #[.int .i64 0, .int .i64 0, .int .i64 0, .slice none 0 0, .slice none 0 0, .slice none 0 0, .slice none 0 0, .int .i64 0, .int .i64 0, .bool false] 25 (0, 0))) := ⟨h4_⟩
            have n5_ : Aside0 (Below w.heap.size w w33) := ⟨h5_⟩
            clear BK111
            clear HB
            clear h0_ h1_ h2_ h3_ h4_ h5_
            have HO116 := n0_
            have HO119 := n1_
            have HO122 := n2_
            have HO125 := n3_
            have BK111 := n4_
            have HB := n5_
            clear n0_ n1_ n2_ n3_ n4_ n5_
            have hHeld := trivial
            obtain ⟨Ao34, co34, eo34⟩ := Kd.R_slice HO125.out
            (first | subst eo34 | (injection eo34 with f1_ f2_ f3_; have f4_ := f1_.symm; have f5_ := f3_.symm; clear f1_ f2_ f3_; subst f4_; subst f5_))
            obtain ⟨Ao35, co35, eo35⟩ := Kd.R_slice HO122.out
            (first | subst eo35 | (injection eo35 with f1_ f2_ f3_; have f4_ := f1_.symm; have f5_ := f3_.symm; clear f1_ f2_ f3_; subst f4_; subst f5_))
            obtain ⟨Ao36, co36, eo36⟩ := Kd.R_slice HO119.out
            (first | subst eo36 | (injection eo36 with f1_ f2_ f3_; have f4_ := f1_.symm; have f5_ := f3_.symm; clear f1_ f2_ f3_; subst f4_; subst f5_))
            obtain ⟨Ao37, co37, eo37⟩ := Kd.R_slice HO116.out
            (first | subst eo37 | (injection eo37 with f1_ f2_ f3_; have f4_ := f1_.symm; have f5_ := f3_.symm; clear f1_ f2_ f3_; subst f4_; subst f5_))
            refine norm_ (a' := ?_) ?_ ?_; rotate_left; (simp only [putAll, Act.put, sI_, s0_, sS_]; rfl)
            refine pure_ (i := 10) (N := some 48) (v := ?_) (a' := ?_) (bA 11 13) rfl rfl (any_of HT_.out (by kernel_rfl)) (fun _ _ _ h => h) (Or.inl ⟨by rfl, ?_⟩) ?_ ?_; rotate_left; (intro w'; go_simp; with_reducible rfl); rotate_left; (simp only [Act.put, sI_, s0_, sS_, i64_w, i32_w]; rfl)
            refine one_ (i := 11) (N := none) (bA 12 13) rfl rfl (one_of HT_.out (by kernel_rfl)) (by decide) (fun K hK => ?_)
            have hs38 : w33.cell? ⟨gb111, 0, none⟩ = some (.int .i64 0) := (blk_cell BK111.out 0).trans rfl
            have hfs38 := blk_frozen BK111.out 0
            have hs39 : w33.cell? ⟨gb111, 1, none⟩ = some (.int .i64 0) := (blk_cell BK111.out 1).trans rfl
            have hfs39 := blk_frozen BK111.out 1
            have hs40 : w33.cell? ⟨gb111, 2, none⟩ = some (.int .i64 0) := (blk_cell BK111.out 2).trans rfl
            have hfs40 := blk_frozen BK111.out 2
            have hs41 : w33.cell? ⟨gb111, 3, none⟩ = some (.slice none 0 0) := (blk_cell BK111.out 3).trans rfl
            have hfs41 := blk_frozen BK111.out 3
            have hs42 : w33.cell? ⟨gb111, 4, none⟩ = some (.slice none 0 0) := (blk_cell BK111.out 4).trans rfl
            have hfs42 := blk_frozen BK111.out 4
            have hs43 : w33.cell? ⟨gb111, 5, none⟩ = some (.slice none 0 0) := (blk_cell BK111.out 5).trans rfl
            have hfs43 := blk_frozen BK111.out 5
            have hs44 : w33.cell? ⟨gb111, 6, none⟩ = some (.slice none 0 0) := (blk_cell BK111.out 6).trans rfl
            have hfs44 := blk_frozen BK111.out 6
            have hs45 : w33.cell? ⟨gb111, 7, none⟩ = some (.int .i64 0) := (blk_cell BK111.out 7).trans rfl
            have hfs45 := blk_frozen BK111.out 7
            have hs46 : w33.cell? ⟨gb111, 8, none⟩ = some (.int .i64 0) := (blk_cell BK111.out 8).trans rfl
            have hfs46 := blk_frozen BK111.out 8
            have hs47 : w33.cell? ⟨gb111, 9, none⟩ = some (.bool false) := (blk_cell BK111.out 9).trans rfl
            have hfs47 := blk_frozen BK111.out 9
            refine skip_ (w1 := ?_) (by rfl) rfl ?_ ?_
            rotate_left
            ·go_simp
             rfl
            refine hK.out _ _ trivial (fun hHeld => ?_)
            clear hK K
            refine pure_ (i := 12) (N := some 7) (v := ?_) (a' := ?_) (bA 13 13) rfl rfl (any_of HT_.out (by kernel_rfl)) (fun _ _ _ h => h) (Or.inl ⟨by rfl, ?_⟩) ?_ ?_; rotate_left; (intro w'; go_simp; with_reducible rfl); rotate_left; (simp only [Act.put, sI_, s0_, sS_, i64_w, i32_w]; rfl)
            refine done_ (done_of HT_.out (by kernel_rfl)) ?_
            try go_wp2
            refine bodyPost_ret (results_ct rfl _ _ gb111 25 #[.int .i64 a1, .int .i64 a2, .int .i64 16, .slice Ao37 y114.length co37, .slice Ao36 y117.length co36, .slice Ao35 y120.length co35, .slice Ao34 y123.length co34, .int .i64 0, .int .i64 0, .bool true] (0, 0) _ rfl (dP10_ BK111) Try.underlying25 rfl (by kernel_rfl)) rfl ?_
            exact ⟨_, _, _, _, tE_, by (with_reducible repeat (first | apply Kd.R_alloc | apply Kd.R_drewN | apply Kd.R_drew)); exact Kd.R_mono (far10_ (Kd.R_types HO116.out BK111.out (by decide)) gb111 (fun _ hk => hk.2) (.int .i64 a1) (.int .i64 a2) (.int .i64 16) (.slice Ao37 y114.length co37) (.slice Ao36 y117.length co36) (.slice Ao35 y120.length co35) (.slice Ao34 y123.length co34) (.int .i64 0) (.int .i64 0) (.bool true)) (fun _ hk => ⟨hk.1.1, ⟨hk.1.2.1, hk.1.2.2⟩⟩), by (with_reducible repeat (first | apply Kd.R_alloc | apply Kd.R_drewN | apply Kd.R_drew)); exact Kd.R_mono (far10_ (Kd.R_types HO119.out BK111.out (by decide)) gb111 (fun _ hk => hk.2) (.int .i64 a1) (.int .i64 a2) (.int .i64 16) (.slice Ao37 y114.length co37) (.slice Ao36 y117.length co36) (.slice Ao35 y120.length co35) (.slice Ao34 y123.length co34) (.int .i64 0) (.int .i64 0) (.bool true)) (fun _ hk => ⟨hk.1.1, ⟨hk.1.2.1, hk.1.2.2⟩⟩), by (with_reducible repeat (first | apply Kd.R_alloc | apply Kd.R_drewN | apply Kd.R_drew)); exact Kd.R_mono (far10_ (Kd.R_types HO122.out BK111.out (by decide)) gb111 (fun _ hk => hk.2) (.int .i64 a1) (.int .i64 a2) (.int .i64 16) (.slice Ao37 y114.length co37) (.slice Ao36 y117.length co36) (.slice Ao35 y120.length co35) (.slice Ao34 y123.length co34) (.int .i64 0) (.int .i64 0) (.bool true)) (fun _ hk => ⟨hk.1.1, ⟨hk.1.2.1, hk.1.2.2⟩⟩), by (with_reducible repeat (first | apply Kd.R_alloc | apply Kd.R_drewN | apply Kd.R_drew)); exact Kd.R_mono (far10_ (Kd.R_types HO125.out BK111.out (by decide)) gb111 (fun _ hk => hk.2) (.int .i64 a1) (.int .i64 a2) (.int .i64 16) (.slice Ao37 y114.length co37) (.slice Ao36 y117.length co36) (.slice Ao35 y120.length co35) (.slice Ao34 y123.length co34) (.int .i64 0) (.int .i64 0) (.bool true)) (fun _ hk => ⟨hk.1.1, ⟨hk.1.2.1, hk.1.2.2⟩⟩), dL1_ HB GE111⟩
           ·rw [if_neg c19] at H
            exact absurd H (by simp)
          ·rw [if_neg c18] at H
           exact absurd H (by simp)
         ·rw [if_neg c17] at H
          exact absurd H (by simp)
        ·rw [if_neg c16] at H
         exact absurd H (by simp)
 ·rw [if_neg c5] at H
  have c5b0 : (t112 == 0) = false := beq_eq_false_iff_ne.mpr c5
  have c5b1 : (t112 != 0) = true := bne_iff_ne.mpr c5
  simp only [Option.some.injEq, Prod.mk.injEq] at H
  obtain ⟨rfl, rfl, rfl, rfl, rfl, rfl, rfl, rfl, rfl, rfl, rfl⟩ := H
  go_enter Try.func17, Try.ntmps17
  go_wp2_with (first | ((with_reducible refine gate_dst (N := 6) rfl ?_); (try (refine gate_guard (by rfl) ?_; dsimp only)); refine box_event ?hg (N := 6) ?hd (cs := #[.int .i64 0, .int .i64 0, .int .i64 0, .slice none 0 0, .slice none 0 0, .slice none 0 0, .slice none 0 0, .int .i64 0, .int .i64 0, .bool false]) (t := 25) ?hr ?_; (case hd => rfl); (case hg => rfl); (case hr => first | (go_simp; done) | (go_simp; rfl)); intro gb111 hg w48 hbox hb; have BK111 := Aside0.mk (hbox); have GW111 := Aside0.mk ((dS_ hg (dL_ HB) : w.heap.size ≤ gb111)); have GE111 := Aside0.mk ((dS_ hg (dL_ HB) : w.heap.size ≤ gb111)); replace HB := Aside0.mk (below_step (dL_ HB) hb); clear hb hbox hg) | ((with_reducible refine gate_callee (f := 33) rfl ?_); refine goesL_ (some 11) rfl rfl Try.func33 (by kernel_rfl) rfl #[.slice A0 l0.length c0] rfl tA_ ?_; (with_reducible refine (plant_ValidateKinds.calls k _ _ l0 t112 _ ?side1 ?side2 A4.out).mono ?_); (case side1 => exact dC_ HR0 HB); (case side2 => exact HC0.out); rintro e w49 ⟨rfl, hb⟩; refine ⟨_, rfl, ?_⟩; replace BK111 := Aside0.mk (blk_below (g := gb111) (o := .cells #[.int .i64 0, .int .i64 0, .int .i64 0, .slice none 0 0, .slice none 0 0, .slice none 0 0, .slice none 0 0, .int .i64 0, .int .i64 0, .bool false] 25 (0, 0)) (dB_ BK111) hb); replace HB := Aside0.mk (below_step (dL1_ HB GE111) hb); obtain ⟨hcz50_0, hcz50_1, hcz50_2, hcz50_3, hcz50_4, hcz50_5, hcz50_6, hcz50_7, hcz50_8, hcz50_9, hfz50_0, hfz50_1, hfz50_2, hfz50_3, hfz50_4, hfz50_5, hfz50_6, hfz50_7, hfz50_8, hfz50_9⟩ := cs10_ BK111.out))
  refine bodyPost_ret (results_ct rfl _ _ gb111 25 #[.int .i64 0, .int .i64 0, .int .i64 0, .slice none 0 0, .slice none 0 0, .slice none 0 0, .slice none 0 0, .int .i64 0, .int .i64 0, .bool false] (0, 0) _ rfl (dP10_ BK111) Try.underlying25 rfl (by kernel_rfl)) rfl ?_
  exact ⟨_, _, _, _, tE_, by first | exact Kd.R_nil _ _ _ _ _ | exact Kd.N_nil _ _ _ _ _ | exact Kd.V_nil _ _ _ _ _ | exact Kd.Q_nil _ _ _ _ _ | exact Kd.S_nil _ _ _ _ _, by first | exact Kd.R_nil _ _ _ _ _ | exact Kd.N_nil _ _ _ _ _ | exact Kd.V_nil _ _ _ _ _ | exact Kd.Q_nil _ _ _ _ _ | exact Kd.S_nil _ _ _ _ _, by first | exact Kd.R_nil _ _ _ _ _ | exact Kd.N_nil _ _ _ _ _ | exact Kd.V_nil _ _ _ _ _ | exact Kd.Q_nil _ _ _ _ _ | exact Kd.S_nil _ _ _ _ _, by first | exact Kd.R_nil _ _ _ _ _ | exact Kd.N_nil _ _ _ _ _ | exact Kd.V_nil _ _ _ _ _ | exact Kd.Q_nil _ _ _ _ _ | exact Kd.S_nil _ _ _ _ _, dL1_ HB GE111⟩

end Go.Proofs.Ytnkgelnkoljgdaa.Q
