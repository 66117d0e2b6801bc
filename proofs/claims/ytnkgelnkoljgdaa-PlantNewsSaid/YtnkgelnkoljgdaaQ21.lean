-- PRINTED by print.py (a twelfth state) out of the translation. Not trusted: Lean checks it.
import Derived.Test.YtnkgelnkoljgdaaPrs
import Derived.Test.YtnkgelnkoljgdaaQ0
import Derived.Test.YtnkgelnkoljgdaaQ14
import Derived.Test.YtnkgelnkoljgdaaQ17
namespace Go.Proofs.Ytnkgelnkoljgdaa.Q
open Go.RowKit Go.Proofs.YtnkgelnkoljgdaaPrs Go.Proofs.YtnkgelnkoljgdaaOwn Go.Proofs.YtnkgelnkoljgdaaW.PrintWords Go.Proofs.YtnkgelnkoljgdaaW.PrintLast Go.Proofs.YtnkgelnkoljgdaaW.PrintMore
open List renaming setIfInBounds_toArray → sI_, set_cons_zero → s0_, set_cons_succ → sS_
attribute [local go_sem] max2_int min2_int max_two min_two max_three min_three max_four min_four   -- for this text's walks alone
set_option linter.unusedVariables false
set_option linter.unusedSimpArgs false

/-! ### hinterlandref10_New: function 18 -/
def hinterlandref10_New.j0 : Nat → List (S39) → Int → Int → Bool → Option (Int × Int × Int × List Int × List Int × List Int × List Int × Int × Int × Bool × Int)
  | 0, _, _, _, _ => none
  | k + 1, x0, x1, x2, x23 => if x23 = true then (some (0, 0, 0, ([] : List Int), ([] : List Int), ([] : List Int), ([] : List Int), 0, 0, false, 2)) else ((hinterlandref10_within.f x2 0 1000000).bind fun t287 => (if t287 = true then (if 0 ≤ x1 then (if x1 < (x0.length : Int) then (if 0 ≤ (((rd_T39 x0 x1).f2).length : Int) then (if ((((rd_T39 x0 x1).f2).length : Int) : Int).toNat ≤ 35184372088832 then (some (x1, x2, 16, (List.replicate ((((rd_T39 x0 x1).f2).length : Int) : Int).toNat 0), (List.replicate ((((rd_T39 x0 x1).f2).length : Int) : Int).toNat 0), (List.replicate ((((rd_T39 x0 x1).f2).length : Int) : Int).toNat 0), (List.replicate ((((rd_T39 x0 x1).f2).length : Int) : Int).toNat 0), 0, 0, true, 0)) else (none)) else (none)) else (none)) else (none)) else (some (0, 0, 0, ([] : List Int), ([] : List Int), ([] : List Int), ([] : List Int), 0, 0, false, 1))))
def hinterlandref10_New.f (k : Nat) (l0 : List (S39)) (a1 : Int) (a2 : Int) : Option (Int × Int × Int × List Int × List Int × List Int × List Int × Int × Int × Bool × Int) := (hinterlandref10_ValidateKinds.f k l0).bind fun t286 => (if t286 = 0 then (if a1 < 0 then (hinterlandref10_New.j0 k l0 a1 a2 true) else (hinterlandref10_New.j0 k l0 a1 a2 (decide (a1 ≥ (l0.length : Int))))) else (some (0, 0, 0, ([] : List Int), ([] : List Int), ([] : List Int), ([] : List Int), 0, 0, false, t286)))
theorem hinterlandref10_New.mono_l : ∀ k, (∀ y0 y1 y2 y3, LeO (hinterlandref10_New.j0 k y0 y1 y2 y3) (hinterlandref10_New.j0 (k + 1) y0 y1 y2 y3))
  | 0 => fun _ _ _ _ r h => by simp [hinterlandref10_New.j0] at h
  | k + 1 => by
    have ih0 := hinterlandref10_New.mono_l k
    · intro y0 y1 y2 y3
      unfold hinterlandref10_New.j0
      repeat' first
      | (with_reducible first | exact ih0 _ _ _ _ | exact hinterlandref10_ValidateKinds.mono _ _ | exact LeO.refl _ | exact LeO.none _ | refine LeO.ite ?_ ?_ | refine LeO.bind ?_ (fun _ => ?_))
      | exact ih0 _ _ _ _
      | exact hinterlandref10_ValidateKinds.mono _ _
      | exact LeO.none _
      | refine LeO.ite ?_ ?_
      | refine LeO.bind ?_ (fun _ => ?_)
theorem hinterlandref10_New.mono : ∀ a0 a1 a2 k, LeO (hinterlandref10_New.f k a0 a1 a2) (hinterlandref10_New.f (k + 1) a0 a1 a2) := by
  intro a0 a1 a2 k
  have ih0 := hinterlandref10_New.mono_l k
  unfold hinterlandref10_New.f
  repeat' first
      | (with_reducible first | exact ih0 _ _ _ _ | exact hinterlandref10_ValidateKinds.mono _ _ | exact LeO.refl _ | exact LeO.none _ | refine LeO.ite ?_ ?_ | refine LeO.bind ?_ (fun _ => ?_))
      | exact ih0 _ _ _ _
      | exact hinterlandref10_ValidateKinds.mono _ _
      | exact LeO.none _
      | refine LeO.ite ?_ ?_
      | refine LeO.bind ?_ (fun _ => ?_)
def hinterlandref10_New.T9 : Bool × List (List Nat × List Nat) := (true, [([], []), ([], []), ([], []), ([2, 2], [2]), ([], []), ([4, 4], [4]), ([], []), ([6, 6], [6]), ([], []), ([8, 8], [8]), ([0, 1, 3, 5, 7, 9], [0, 1, 3, 5, 7, 9]), ([10, 0, 1, 2, 3, 4, 5, 6, 7, 8, 9, 10], [10]), ([11, 0, 1, 2, 3, 4, 5, 6, 7, 8, 9, 10, 11], [])])
def hinterlandref10_New.B9 : List Nat := [0, 0, 0, 4, 0, 16, 0, 64, 0, 256, 1023, 2047, 4095]
theorem hinterlandref10_New.tab9 : rtab .any (opsOf Try.f18 9) = hinterlandref10_New.T9 := by kernel_rfl
theorem hinterlandref10_New.bits9 : waitsOk hinterlandref10_New.T9.2 hinterlandref10_New.B9 = true := by kernel_rfl
set_option maxHeartbeats 8000000 in
set_option maxRecDepth 100000 in
theorem hinterlandref10_New.calls (k : Nat) (A0 : Option Addr) (c0 : Nat) (l0 : List (S39)) (a1 : Int) (a2 : Int) (r1 : Int) (r2 : Int) (r3 : Int) (r4 : List Int) (r5 : List Int) (r6 : List Int) (r7 : List Int) (r8 : Int) (r9 : Int) (r10 : Bool) (r11 : Int) (w : World) (hr0 : Kd.C k39 w A0 l0.length l0) (hc0 : l0.length ≤ c0) (h : hinterlandref10_New.f k l0 a1 a2 = some (r1, r2, r3, r4, r5, r6, r7, r8, r9, r10, r11)) :
    Calls Try.prog 18 #[.slice A0 l0.length c0, .int .i64 a1, .int .i64 a2] w fun e w' => ∃ v3_ v4_ v5_ v6_ : Value, e = .returned (.tuple #[.agg #[.int .i64 r1, .int .i64 r2, .int .i64 r3, v3_, v4_, v5_, v6_, .int .i64 r8, .int .i64 r9, .bool r10], .int .i64 r11]) ∧ Kd.R (Kd.int .i64) 3 w' w.heap.size (fun k_ => some k_ ≠ (v4_ : Value).ownBlock ∧ some k_ ≠ (v5_ : Value).ownBlock ∧ some k_ ≠ (v6_ : Value).ownBlock) v3_ r4 ∧ Kd.R (Kd.int .i64) 3 w' w.heap.size (fun k_ => some k_ ≠ (v3_ : Value).ownBlock ∧ some k_ ≠ (v5_ : Value).ownBlock ∧ some k_ ≠ (v6_ : Value).ownBlock) v4_ r5 ∧ Kd.R (Kd.int .i64) 3 w' w.heap.size (fun k_ => some k_ ≠ (v3_ : Value).ownBlock ∧ some k_ ≠ (v4_ : Value).ownBlock ∧ some k_ ≠ (v6_ : Value).ownBlock) v5_ r6 ∧ Kd.R (Kd.int .i64) 3 w' w.heap.size (fun k_ => some k_ ≠ (v3_ : Value).ownBlock ∧ some k_ ≠ (v4_ : Value).ownBlock ∧ some k_ ≠ (v5_ : Value).ownBlock) v6_ r7 ∧ Below w.heap.size w w' := by
 have hu25 := Try.underlying25
 have HR0 := Aside0.mk hr0
 have HC0 := Aside0.mk hc0
 clear hr0 hc0
 have HB := Aside0.mk (Below.refl w.heap.size w)
 have H : ((hinterlandref10_ValidateKinds.f k l0).bind fun t286 => (if t286 = 0 then (if a1 < 0 then (hinterlandref10_New.j0 k l0 a1 a2 true) else (hinterlandref10_New.j0 k l0 a1 a2 (decide (a1 ≥ (l0.length : Int))))) else (some (0, 0, 0, ([] : List Int), ([] : List Int), ([] : List Int), ([] : List Int), 0, 0, false, t286)))) = some (r1, r2, r3, r4, r5, r6, r7, r8, r9, r10, r11) := h
 clear h
 replace H := Option.bind_eq_some_iff.mp H
 obtain ⟨t286, A40, H⟩ := H
 replace H : (if t286 = 0 then (if a1 < 0 then (hinterlandref10_New.j0 k l0 a1 a2 true) else (hinterlandref10_New.j0 k l0 a1 a2 (decide (a1 ≥ (l0.length : Int))))) else (some (0, 0, 0, ([] : List Int), ([] : List Int), ([] : List Int), ([] : List Int), 0, 0, false, t286))) = some (r1, r2, r3, r4, r5, r6, r7, r8, r9, r10, r11) := H
 have A4 := Aside0.mk A40
 clear A40
 by_cases c5 : t286 = 0
 ·rw [if_pos c5] at H
  have c5b0 : (t286 == 0) = true := beq_iff_eq.mpr c5
  have c5b1 : (t286 != 0) = false := bne_eq_false_iff_eq.mpr c5
  clear c5
  have HC6 := Aside0.mk H
  clear H
  go_enter Try.func18, Try.ntmps18
  go_upto_region 4 with (first | ((with_reducible refine gate_dst (N := 6) rfl ?_); (try (refine gate_guard (by rfl) ?_; dsimp only)); refine box_event ?hg (N := 6) ?hd (cs := #[.int .i64 0, .int .i64 0, .int .i64 0, .slice none 0 0, .slice none 0 0, .slice none 0 0, .slice none 0 0, .int .i64 0, .int .i64 0, .bool false]) (t := 25) ?hr ?_; (case hd => rfl); (case hg => rfl); (case hr => first | (go_simp; done) | (go_simp; rfl)); intro gb285 hg w7 hbox hb; have BK285 := Aside0.mk (hbox); have GW285 := Aside0.mk ((dS_ hg (dL_ HB) : w.heap.size ≤ gb285)); have GE285 := Aside0.mk ((dS_ hg (dL_ HB) : w.heap.size ≤ gb285)); replace HB := Aside0.mk (below_step (dL_ HB) hb); clear hb hbox hg) | ((with_reducible refine gate_callee (f := 35) rfl ?_); refine goesL_ (some 11) rfl rfl Try.func35 (by kernel_rfl) rfl #[.slice A0 l0.length c0] rfl tA_ ?_; (with_reducible refine (hinterlandref10_ValidateKinds.calls k _ _ l0 t286 _ ?side1 ?side2 A4.out).mono ?_); (case side1 => exact dC_ HR0 HB); (case side2 => exact HC0.out); rintro e w8 ⟨rfl, hb⟩; refine ⟨_, rfl, ?_⟩; replace BK285 := Aside0.mk (blk_below (g := gb285) (o := .cells #[.int .i64 0, .int .i64 0, .int .i64 0, .slice none 0 0, .slice none 0 0, .slice none 0 0, .slice none 0 0, .int .i64 0, .int .i64 0, .bool false] 25 (0, 0)) (dB_ BK285) hb); replace HB := Aside0.mk (below_step (dL1_ HB GE285) hb)))
  (try simp only [Act.put, sI_, s0_, sS_])
  go_cut [23] (fun v23 wc => ∃ (kq : Nat) (x23_5 : Bool), v23 = .bool x23_5 ∧ Aside0 (hinterlandref10_New.j0 kq l0 a1 a2 x23_5 = some (r1, r2, r3, r4, r5, r6, r7, r8, r9, r10, r11)) ∧ Aside0 (kq ≤ k) ∧ Aside0 (wc.heap[gb285]? = some (.cells #[.int .i64 0, .int .i64 0, .int .i64 0, (.slice none 0 0), (.slice none 0 0), (.slice none 0 0), (.slice none 0 0), .int .i64 0, .int .i64 0, .bool false] 25 (0, 0))) ∧ Aside0 (Below w.heap.size w wc))
  case first =>
   have H := HC6.out
   clear HC6
   by_cases c9 : a1 < 0
   ·rw [if_pos c9] at H
    have c9b0 : decide (a1 < 0) = true := decide_eq_true c9
    clear c9
    (first | rw [c9b0] | (simp only [i64_w, i32_w]; rw [c9b0]) | skip)
    have H' := Aside0.mk H
    clear H
    go_wp2
    go_meet
    case rel => exact ⟨_, (true), tS_, H', ⟨by first | omega | exact Nat.le_refl _⟩, ⟨dB_ BK285⟩, ⟨dL1_ HB GE285⟩⟩
   ·rw [if_neg c9] at H
    have c9b0 : decide (a1 < 0) = false := decide_eq_false c9
    clear c9
    (first | rw [c9b0] | (simp only [i64_w, i32_w]; rw [c9b0]) | skip)
    have H' := Aside0.mk H
    clear H
    go_wp2
    go_meet
    case rel => exact ⟨_, (decide (a1 ≥ (l0.length : Int))), tS_, H', ⟨by first | omega | exact Nat.le_refl _⟩, ⟨dB_ BK285⟩, ⟨dL1_ HB GE285⟩⟩
  case rest =>
   clear HC6
   try clear c5
   try clear c5b0
   try clear c5b1
   try clear c9
   obtain ⟨kq, x23_5, rfl, HA, HJ5, BK285, HB⟩ := hcut
   cases kq with
   | zero => exact absurd HA.out (by simp [hinterlandref10_New.j0])
   | succ kj5 =>
    have H := HA.out
    clear HA
    simp only [hinterlandref10_New.j0] at H
    by_cases c10 : x23_5 = true
    ·subst c10
     have H1 : (some (0, 0, 0, ([] : List Int), ([] : List Int), ([] : List Int), ([] : List Int), 0, 0, false, 2)) = some (r1, r2, r3, r4, r5, r6, r7, r8, r9, r10, r11) := by rw [if_pos rfl] at H; exact H
     clear H
     have H := H1
     clear H1
     simp only [Option.some.injEq, Prod.mk.injEq] at H
     obtain ⟨rfl, rfl, rfl, rfl, rfl, rfl, rfl, rfl, rfl, rfl, rfl⟩ := H
     obtain ⟨hcz11_0, hcz11_1, hcz11_2, hcz11_3, hcz11_4, hcz11_5, hcz11_6, hcz11_7, hcz11_8, hcz11_9, hfz11_0, hfz11_1, hfz11_2, hfz11_3, hfz11_4, hfz11_5, hfz11_6, hfz11_7, hfz11_8, hfz11_9⟩ := cs10_ BK285.out
     go_wp2
     refine bodyPost_ret (results_ct rfl _ _ gb285 25 #[.int .i64 0, .int .i64 0, .int .i64 0, .slice none 0 0, .slice none 0 0, .slice none 0 0, .slice none 0 0, .int .i64 0, .int .i64 0, .bool false] (0, 0) _ rfl (dP10_ BK285) Try.underlying25 rfl (by kernel_rfl)) rfl ?_
     exact ⟨_, _, _, _, tE_, by first | exact Kd.R_nil _ _ _ _ _ | exact Kd.N_nil _ _ _ _ _ | exact Kd.V_nil _ _ _ _ _ | exact Kd.Q_nil _ _ _ _ _ | exact Kd.S_nil _ _ _ _ _, by first | exact Kd.R_nil _ _ _ _ _ | exact Kd.N_nil _ _ _ _ _ | exact Kd.V_nil _ _ _ _ _ | exact Kd.Q_nil _ _ _ _ _ | exact Kd.S_nil _ _ _ _ _, by first | exact Kd.R_nil _ _ _ _ _ | exact Kd.N_nil _ _ _ _ _ | exact Kd.V_nil _ _ _ _ _ | exact Kd.Q_nil _ _ _ _ _ | exact Kd.S_nil _ _ _ _ _, by first | exact Kd.R_nil _ _ _ _ _ | exact Kd.N_nil _ _ _ _ _ | exact Kd.V_nil _ _ _ _ _ | exact Kd.Q_nil _ _ _ _ _ | exact Kd.S_nil _ _ _ _ _, dL1_ HB GE285⟩
    ·replace c10 := Bool.eq_false_iff.mpr c10
     subst c10
     have H1 : ((hinterlandref10_within.f a2 0 1000000).bind fun t287 => (if t287 = true then (if 0 ≤ a1 then (if a1 < (l0.length : Int) then (if 0 ≤ (((rd_T39 l0 a1).f2).length : Int) then (if ((((rd_T39 l0 a1).f2).length : Int) : Int).toNat ≤ 35184372088832 then (some (a1, a2, 16, (List.replicate ((((rd_T39 l0 a1).f2).length : Int) : Int).toNat 0), (List.replicate ((((rd_T39 l0 a1).f2).length : Int) : Int).toNat 0), (List.replicate ((((rd_T39 l0 a1).f2).length : Int) : Int).toNat 0), (List.replicate ((((rd_T39 l0 a1).f2).length : Int) : Int).toNat 0), 0, 0, true, 0)) else (none)) else (none)) else (none)) else (none)) else (some (0, 0, 0, ([] : List Int), ([] : List Int), ([] : List Int), ([] : List Int), 0, 0, false, 1)))) = some (r1, r2, r3, r4, r5, r6, r7, r8, r9, r10, r11) := by rw [if_neg (show ¬ (false = true) by decide)] at H; exact H
     clear H
     have H := H1
     clear H1
     replace H := Option.bind_eq_some_iff.mp H
     obtain ⟨t287, A120, H⟩ := H
     replace H : (if t287 = true then (if 0 ≤ a1 then (if a1 < (l0.length : Int) then (if 0 ≤ (((rd_T39 l0 a1).f2).length : Int) then (if ((((rd_T39 l0 a1).f2).length : Int) : Int).toNat ≤ 35184372088832 then (some (a1, a2, 16, (List.replicate ((((rd_T39 l0 a1).f2).length : Int) : Int).toNat 0), (List.replicate ((((rd_T39 l0 a1).f2).length : Int) : Int).toNat 0), (List.replicate ((((rd_T39 l0 a1).f2).length : Int) : Int).toNat 0), (List.replicate ((((rd_T39 l0 a1).f2).length : Int) : Int).toNat 0), 0, 0, true, 0)) else (none)) else (none)) else (none)) else (none)) else (some (0, 0, 0, ([] : List Int), ([] : List Int), ([] : List Int), ([] : List Int), 0, 0, false, 1))) = some (r1, r2, r3, r4, r5, r6, r7, r8, r9, r10, r11) := H
     have A12 := Aside0.mk A120
     clear A120
     by_cases c13 : t287 = true
     ·subst c13
      have H1 : (if 0 ≤ a1 then (if a1 < (l0.length : Int) then (if 0 ≤ (((rd_T39 l0 a1).f2).length : Int) then (if ((((rd_T39 l0 a1).f2).length : Int) : Int).toNat ≤ 35184372088832 then (some (a1, a2, 16, (List.replicate ((((rd_T39 l0 a1).f2).length : Int) : Int).toNat 0), (List.replicate ((((rd_T39 l0 a1).f2).length : Int) : Int).toNat 0), (List.replicate ((((rd_T39 l0 a1).f2).length : Int) : Int).toNat 0), (List.replicate ((((rd_T39 l0 a1).f2).length : Int) : Int).toNat 0), 0, 0, true, 0)) else (none)) else (none)) else (none)) else (none)) = some (r1, r2, r3, r4, r5, r6, r7, r8, r9, r10, r11) := by rw [if_pos rfl] at H; exact H
      clear H
      have H := H1
      clear H1
      by_cases c14 : 0 ≤ a1
      ·rw [if_pos c14] at H
       have c14b0 : decide (0 ≤ a1) = true := decide_eq_true c14
       clear c14
       by_cases c15 : a1 < (l0.length : Int)
       ·rw [if_pos c15] at H
        have c15b0 : decide (a1 < (l0.length : Int)) = true := decide_eq_true c15
        clear c15
        by_cases c16 : 0 ≤ (((rd_T39 l0 a1).f2).length : Int)
        ·rw [if_pos c16] at H
         have c16b0 := eq_true c16
         have c16b1 : decide (0 ≤ (((rd_T39 l0 a1).f2).length : Int)) = true := decide_eq_true c16
         clear c16
         by_cases c17 : ((((rd_T39 l0 a1).f2).length : Int) : Int).toNat ≤ 35184372088832
         ·rw [if_pos c17] at H
          have c17b0 := eq_true c17
          have c17b1 : decide (((((rd_T39 l0 a1).f2).length : Int) : Int).toNat ≤ 35184372088832) = true := decide_eq_true c17
          clear c17
          obtain ⟨y289, hy289⟩ : ∃ y_ : List Int, y_ = (List.replicate ((((rd_T39 l0 a1).f2).length : Int) : Int).toNat 0) := ⟨_, rfl⟩
          replace H : (some (a1, a2, 16, y289, (List.replicate ((((rd_T39 l0 a1).f2).length : Int) : Int).toNat 0), (List.replicate ((((rd_T39 l0 a1).f2).length : Int) : Int).toNat 0), (List.replicate ((((rd_T39 l0 a1).f2).length : Int) : Int).toNat 0), 0, 0, true, 0)) = some (r1, r2, r3, r4, r5, r6, r7, r8, r9, r10, r11) := by first | (rw [hy289]; with_reducible exact H) | (have H2_ := (Option.bind_some _ _).symm.trans H; rw [hy289]; with_reducible exact H2_) | (have H2_ := (Option.bind_some _ _).symm.trans H; with_reducible exact H2_) | with_reducible exact H | (rw [hy289]; exact H) | exact H
          have Ny289 := Aside0.mk hy289
          clear hy289
          obtain ⟨y292, hy292⟩ : ∃ y_ : List Int, y_ = (List.replicate ((((rd_T39 l0 a1).f2).length : Int) : Int).toNat 0) := ⟨_, rfl⟩
          replace H : (some (a1, a2, 16, y289, y292, (List.replicate ((((rd_T39 l0 a1).f2).length : Int) : Int).toNat 0), (List.replicate ((((rd_T39 l0 a1).f2).length : Int) : Int).toNat 0), 0, 0, true, 0)) = some (r1, r2, r3, r4, r5, r6, r7, r8, r9, r10, r11) := by first | (rw [hy292]; with_reducible exact H) | (have H2_ := (Option.bind_some _ _).symm.trans H; rw [hy292]; with_reducible exact H2_) | (have H2_ := (Option.bind_some _ _).symm.trans H; with_reducible exact H2_) | with_reducible exact H | (rw [hy292]; exact H) | exact H
          have Ny292 := Aside0.mk hy292
          clear hy292
          obtain ⟨y295, hy295⟩ : ∃ y_ : List Int, y_ = (List.replicate ((((rd_T39 l0 a1).f2).length : Int) : Int).toNat 0) := ⟨_, rfl⟩
          replace H : (some (a1, a2, 16, y289, y292, y295, (List.replicate ((((rd_T39 l0 a1).f2).length : Int) : Int).toNat 0), 0, 0, true, 0)) = some (r1, r2, r3, r4, r5, r6, r7, r8, r9, r10, r11) := by first | (rw [hy295]; with_reducible exact H) | (have H2_ := (Option.bind_some _ _).symm.trans H; rw [hy295]; with_reducible exact H2_) | (have H2_ := (Option.bind_some _ _).symm.trans H; with_reducible exact H2_) | with_reducible exact H | (rw [hy295]; exact H) | exact H
          have Ny295 := Aside0.mk hy295
          clear hy295
          obtain ⟨y298, hy298⟩ : ∃ y_ : List Int, y_ = (List.replicate ((((rd_T39 l0 a1).f2).length : Int) : Int).toNat 0) := ⟨_, rfl⟩
          replace H : (some (a1, a2, 16, y289, y292, y295, y298, 0, 0, true, 0)) = some (r1, r2, r3, r4, r5, r6, r7, r8, r9, r10, r11) := by first | (rw [hy298]; with_reducible exact H) | (have H2_ := (Option.bind_some _ _).symm.trans H; rw [hy298]; with_reducible exact H2_) | (have H2_ := (Option.bind_some _ _).symm.trans H; with_reducible exact H2_) | with_reducible exact H | (rw [hy298]; exact H) | exact H
          have Ny298 := Aside0.mk hy298
          clear hy298
          simp only [Option.some.injEq, Prod.mk.injEq] at H
          obtain ⟨rfl, rfl, rfl, rfl, rfl, rfl, rfl, rfl, rfl, rfl, rfl⟩ := H
          try go_wp2_with (first | ((with_reducible refine gate_callee (f := 36) rfl ?_); refine goesL_ (some 26) rfl rfl Try.func36 (by kernel_rfl) rfl #[.int .i64 a2, .int .i64 0, .int .i64 1000000] rfl tA_ ?_; (with_reducible refine (hinterlandref10_within.calls a2 0 1000000 true _ A12.out).mono ?_); rintro e w' ⟨rfl, ⟨nd, rfl⟩⟩; refine ⟨_, rfl, ?_⟩; (try (rw [drewN_self wc]; generalize hq_ : World.drewN wc _ = wc; have n0_ : Aside0 (wc.heap[gb285]? = some (.cells #[.int .i64 0, .int .i64 0, .int .i64 0, .slice none 0 0, .slice none 0 0, .slice none 0 0, .slice none 0 0, .int .i64 0, .int .i64 0, .bool false] 25 (0, 0))) := ⟨by rw [← hq_]; exact (dB_ BK285)⟩; have n1_ : Aside0 (Below w.heap.size w wc) := ⟨by rw [← hq_]; exact (dL1_ HB GE285)⟩; clear BK285 HB hq_; have BK285 := n0_; have HB := n1_; clear n0_ n1_)); have p288 : 0 ≤ (a1 : Int) := of_decide_eq_true tW_; have q288 : a1 < (l0.length : Int) := of_decide_eq_true tW_; obtain ⟨ad288, A288_1, c288_1, A288_2, c288_2, e288, hx288_0, hx288_1, hx288_2, hl288_1, hi288_1, hl288_2, hi288_2⟩ := at_T39 HR0.out a1 p288 q288; cases e288; replace hx288_0 := bc_ HB hx288_0; replace hx288_1 := bc_ HB hx288_1; replace hx288_2 := bc_ HB hx288_2; have HR288_1 := Aside0.mk hi288_1; have HC288_1 := Aside0.mk hl288_1; clear hi288_1 hl288_1; have HR288_2 := Aside0.mk hi288_2; have HC288_2 := Aside0.mk hl288_2; clear hi288_2 hl288_2; replace p288 := eq_true p288; replace q288 := eq_true q288))
          replace BK285 := Aside0.mk (blk_drew BK285.out)
          replace HB := Aside0.mk (below_drew1 HB.out)
          refine start_ (n := 13) (S := fun w' => True) (ds := []) #[false, false, false, false, false, false, false, false, false, false, false, false, false] (by kernel_rfl) rfl rfl trivial (fun hHeld => ?_); refine with_tabW hinterlandref10_New.tab9 hinterlandref10_New.bits9 (fun HT_ HW_ => ?_)
          generalize wc.drew = w18 at BK285 HB hHeld ⊢
          refine pure_ (i := 0) (N := some 35) (v := ?_) (a' := ?_) #[true, false, false, false, false, false, false, false, false, false, false, false, false] rfl rfl (any_of HT_.out (by kernel_rfl)) (fun _ _ _ h => h) (Or.inl ⟨by rfl, ?_⟩) ?_ ?_
          rotate_left
          ·intro w'
           go_simp
           with_reducible rfl
          rotate_left
          ·simp only [Act.put, sI_, s0_, sS_, i64_w, i32_w]
           rfl
          refine pure_ (i := 1) (N := some 36) (v := ?_) (a' := ?_) #[true, true, false, false, false, false, false, false, false, false, false, false, false] rfl rfl (any_of HT_.out (by kernel_rfl)) (fun _ _ _ h => h) (Or.inl ⟨by rfl, ?_⟩) ?_ ?_
          rotate_left
          ·intro w'
           go_simp
           with_reducible rfl
          rotate_left
          ·simp only [Act.put, sI_, s0_, sS_, i64_w, i32_w]
           rfl
          refine pure_ (i := 2) (N := some 37) (v := ?_) (a' := ?_) #[true, true, true, false, false, false, false, false, false, false, false, false, false] rfl rfl (any_of HT_.out (by kernel_rfl)) (fun _ _ _ h => h) (Or.inl ⟨by rfl, ?_⟩) ?_ ?_
          rotate_left
          ·intro w'
           go_simp
           with_reducible rfl
          rotate_left
          ·simp only [Act.put, sI_, s0_, sS_, i64_w, i32_w]
           rfl
          refine pure_ (i := 4) (N := some 39) (v := ?_) (a' := ?_) #[true, true, true, false, true, false, false, false, false, false, false, false, false] rfl rfl (any_of HT_.out (by kernel_rfl)) (fun _ _ _ h => h) (Or.inl ⟨by rfl, ?_⟩) ?_ ?_
          rotate_left
          ·intro w'
           go_simp
           with_reducible rfl
          rotate_left
          ·simp only [Act.put, sI_, s0_, sS_, i64_w, i32_w]
           rfl
          refine pure_ (i := 6) (N := some 41) (v := ?_) (a' := ?_) #[true, true, true, false, true, false, true, false, false, false, false, false, false] rfl rfl (any_of HT_.out (by kernel_rfl)) (fun _ _ _ h => h) (Or.inl ⟨by rfl, ?_⟩) ?_ ?_
          rotate_left
          ·intro w'
           go_simp
           with_reducible rfl
          rotate_left
          ·simp only [Act.put, sI_, s0_, sS_, i64_w, i32_w]
           rfl
          refine pure_ (i := 8) (N := some 43) (v := ?_) (a' := ?_) #[true, true, true, false, true, false, true, false, true, false, false, false, false] rfl rfl (any_of HT_.out (by kernel_rfl)) (fun _ _ _ h => h) (Or.inl ⟨by rfl, ?_⟩) ?_ ?_
          rotate_left
          ·intro w'
           go_simp
           with_reducible rfl
          rotate_left
          ·simp only [Act.put, sI_, s0_, sS_, i64_w, i32_w]
           rfl
          refine join_ (σ := Value × Value × Value × Value) 3 #[true, true, true, true, true, true, true, true, true, true, false, false, false] (fun s_ => [(38, s_.1), (40, s_.2.1), (42, s_.2.2.1), (44, s_.2.2.2)]) (fun s_ w' => (Kd.R (Kd.int .i64) 3 w' w.heap.size (fun k_ => some k_ ≠ (s_.2.1 : Value).ownBlock ∧ some k_ ≠ (s_.2.2.1 : Value).ownBlock ∧ some k_ ≠ (s_.2.2.2 : Value).ownBlock) s_.1 y289) ∧ (Kd.R (Kd.int .i64) 3 w' w.heap.size (fun k_ => some k_ ≠ (s_.1 : Value).ownBlock ∧ some k_ ≠ (s_.2.2.1 : Value).ownBlock ∧ some k_ ≠ (s_.2.2.2 : Value).ownBlock) s_.2.1 y292) ∧ (Kd.R (Kd.int .i64) 3 w' w.heap.size (fun k_ => some k_ ≠ (s_.1 : Value).ownBlock ∧ some k_ ≠ (s_.2.1 : Value).ownBlock ∧ some k_ ≠ (s_.2.2.2 : Value).ownBlock) s_.2.2.1 y295) ∧ (Kd.R (Kd.int .i64) 3 w' w.heap.size (fun k_ => some k_ ≠ (s_.1 : Value).ownBlock ∧ some k_ ≠ (s_.2.1 : Value).ownBlock ∧ some k_ ≠ (s_.2.2.1 : Value).ownBlock) s_.2.2.2 y298) ∧ (w'.heap[gb285]? = some (.cells #[.int .i64 0, .int .i64 0, .int .i64 0, .slice none 0 0, .slice none 0 0, .slice none 0 0, .slice none 0 0, .int .i64 0, .int .i64 0, .bool false] 25 (0, 0))) ∧ (Below w.heap.size w w')) ?_ ?_
          rotate_left
          ·intro hJ3_5_7_9
           refine join_ (σ := Value × Value × Value) 4 #[true, true, true, true, true, true, true, true, true, false, false, false, false] (fun s_ => [(38, s_.1), (40, s_.2.1), (42, s_.2.2)]) (fun s_ w' => (Kd.R (Kd.int .i64) 3 w' w.heap.size (fun k_ => some k_ ≠ (s_.2.1 : Value).ownBlock ∧ some k_ ≠ (s_.2.2 : Value).ownBlock) s_.1 y289) ∧ (Kd.R (Kd.int .i64) 3 w' w.heap.size (fun k_ => some k_ ≠ (s_.1 : Value).ownBlock ∧ some k_ ≠ (s_.2.2 : Value).ownBlock) s_.2.1 y292) ∧ (Kd.R (Kd.int .i64) 3 w' w.heap.size (fun k_ => some k_ ≠ (s_.1 : Value).ownBlock ∧ some k_ ≠ (s_.2.1 : Value).ownBlock) s_.2.2 y295) ∧ (w'.heap[gb285]? = some (.cells #[.int .i64 0, .int .i64 0, .int .i64 0, .slice none 0 0, .slice none 0 0, .slice none 0 0, .slice none 0 0, .int .i64 0, .int .i64 0, .bool false] 25 (0, 0))) ∧ (Below w.heap.size w w')) ?_ ?_
           rotate_left
           ·intro hJ3_5_7
            refine join_ (σ := Value × Value × Value) 4 #[true, true, true, true, true, true, true, false, true, true, false, false, false] (fun s_ => [(38, s_.1), (40, s_.2.1), (44, s_.2.2)]) (fun s_ w' => (Kd.R (Kd.int .i64) 3 w' w.heap.size (fun k_ => some k_ ≠ (s_.2.1 : Value).ownBlock ∧ some k_ ≠ (s_.2.2 : Value).ownBlock) s_.1 y289) ∧ (Kd.R (Kd.int .i64) 3 w' w.heap.size (fun k_ => some k_ ≠ (s_.1 : Value).ownBlock ∧ some k_ ≠ (s_.2.2 : Value).ownBlock) s_.2.1 y292) ∧ (Kd.R (Kd.int .i64) 3 w' w.heap.size (fun k_ => some k_ ≠ (s_.1 : Value).ownBlock ∧ some k_ ≠ (s_.2.1 : Value).ownBlock) s_.2.2 y298) ∧ (w'.heap[gb285]? = some (.cells #[.int .i64 0, .int .i64 0, .int .i64 0, .slice none 0 0, .slice none 0 0, .slice none 0 0, .slice none 0 0, .int .i64 0, .int .i64 0, .bool false] 25 (0, 0))) ∧ (Below w.heap.size w w')) ?_ ?_
            rotate_left
            ·intro hJ3_5_9
             refine join_ (σ := Value × Value × Value) 4 #[true, true, true, true, true, false, true, true, true, true, false, false, false] (fun s_ => [(38, s_.1), (42, s_.2.1), (44, s_.2.2)]) (fun s_ w' => (Kd.R (Kd.int .i64) 3 w' w.heap.size (fun k_ => some k_ ≠ (s_.2.1 : Value).ownBlock ∧ some k_ ≠ (s_.2.2 : Value).ownBlock) s_.1 y289) ∧ (Kd.R (Kd.int .i64) 3 w' w.heap.size (fun k_ => some k_ ≠ (s_.1 : Value).ownBlock ∧ some k_ ≠ (s_.2.2 : Value).ownBlock) s_.2.1 y295) ∧ (Kd.R (Kd.int .i64) 3 w' w.heap.size (fun k_ => some k_ ≠ (s_.1 : Value).ownBlock ∧ some k_ ≠ (s_.2.1 : Value).ownBlock) s_.2.2 y298) ∧ (w'.heap[gb285]? = some (.cells #[.int .i64 0, .int .i64 0, .int .i64 0, .slice none 0 0, .slice none 0 0, .slice none 0 0, .slice none 0 0, .int .i64 0, .int .i64 0, .bool false] 25 (0, 0))) ∧ (Below w.heap.size w w')) ?_ ?_
             rotate_left
             ·intro hJ3_7_9
              refine join_ (σ := Value × Value × Value) 4 #[true, true, true, false, true, true, true, true, true, true, false, false, false] (fun s_ => [(40, s_.1), (42, s_.2.1), (44, s_.2.2)]) (fun s_ w' => (Kd.R (Kd.int .i64) 3 w' w.heap.size (fun k_ => some k_ ≠ (s_.2.1 : Value).ownBlock ∧ some k_ ≠ (s_.2.2 : Value).ownBlock) s_.1 y292) ∧ (Kd.R (Kd.int .i64) 3 w' w.heap.size (fun k_ => some k_ ≠ (s_.1 : Value).ownBlock ∧ some k_ ≠ (s_.2.2 : Value).ownBlock) s_.2.1 y295) ∧ (Kd.R (Kd.int .i64) 3 w' w.heap.size (fun k_ => some k_ ≠ (s_.1 : Value).ownBlock ∧ some k_ ≠ (s_.2.1 : Value).ownBlock) s_.2.2 y298) ∧ (w'.heap[gb285]? = some (.cells #[.int .i64 0, .int .i64 0, .int .i64 0, .slice none 0 0, .slice none 0 0, .slice none 0 0, .slice none 0 0, .int .i64 0, .int .i64 0, .bool false] 25 (0, 0))) ∧ (Below w.heap.size w w')) ?_ ?_
              rotate_left
              ·intro hJ5_7_9
               refine join_ (σ := Value × Value) 5 #[true, true, true, true, true, true, true, false, true, false, false, false, false] (fun s_ => [(38, s_.1), (40, s_.2)]) (fun s_ w' => (Kd.R (Kd.int .i64) 3 w' w.heap.size (fun k_ => some k_ ≠ (s_.2 : Value).ownBlock) s_.1 y289) ∧ (Kd.R (Kd.int .i64) 3 w' w.heap.size (fun k_ => some k_ ≠ (s_.1 : Value).ownBlock) s_.2 y292) ∧ (w'.heap[gb285]? = some (.cells #[.int .i64 0, .int .i64 0, .int .i64 0, .slice none 0 0, .slice none 0 0, .slice none 0 0, .slice none 0 0, .int .i64 0, .int .i64 0, .bool false] 25 (0, 0))) ∧ (Below w.heap.size w w')) ?_ ?_
               rotate_left
               ·intro hJ3_5
                refine join_ (σ := Value × Value) 5 #[true, true, true, true, true, false, true, true, true, false, false, false, false] (fun s_ => [(38, s_.1), (42, s_.2)]) (fun s_ w' => (Kd.R (Kd.int .i64) 3 w' w.heap.size (fun k_ => some k_ ≠ (s_.2 : Value).ownBlock) s_.1 y289) ∧ (Kd.R (Kd.int .i64) 3 w' w.heap.size (fun k_ => some k_ ≠ (s_.1 : Value).ownBlock) s_.2 y295) ∧ (w'.heap[gb285]? = some (.cells #[.int .i64 0, .int .i64 0, .int .i64 0, .slice none 0 0, .slice none 0 0, .slice none 0 0, .slice none 0 0, .int .i64 0, .int .i64 0, .bool false] 25 (0, 0))) ∧ (Below w.heap.size w w')) ?_ ?_
                rotate_left
                ·intro hJ3_7
                 refine join_ (σ := Value × Value) 5 #[true, true, true, true, true, false, true, false, true, true, false, false, false] (fun s_ => [(38, s_.1), (44, s_.2)]) (fun s_ w' => (Kd.R (Kd.int .i64) 3 w' w.heap.size (fun k_ => some k_ ≠ (s_.2 : Value).ownBlock) s_.1 y289) ∧ (Kd.R (Kd.int .i64) 3 w' w.heap.size (fun k_ => some k_ ≠ (s_.1 : Value).ownBlock) s_.2 y298) ∧ (w'.heap[gb285]? = some (.cells #[.int .i64 0, .int .i64 0, .int .i64 0, .slice none 0 0, .slice none 0 0, .slice none 0 0, .slice none 0 0, .int .i64 0, .int .i64 0, .bool false] 25 (0, 0))) ∧ (Below w.heap.size w w')) ?_ ?_
                 rotate_left
                 ·intro hJ3_9
                  refine join_ (σ := Value × Value) 5 #[true, true, true, false, true, true, true, true, true, false, false, false, false] (fun s_ => [(40, s_.1), (42, s_.2)]) (fun s_ w' => (Kd.R (Kd.int .i64) 3 w' w.heap.size (fun k_ => some k_ ≠ (s_.2 : Value).ownBlock) s_.1 y292) ∧ (Kd.R (Kd.int .i64) 3 w' w.heap.size (fun k_ => some k_ ≠ (s_.1 : Value).ownBlock) s_.2 y295) ∧ (w'.heap[gb285]? = some (.cells #[.int .i64 0, .int .i64 0, .int .i64 0, .slice none 0 0, .slice none 0 0, .slice none 0 0, .slice none 0 0, .int .i64 0, .int .i64 0, .bool false] 25 (0, 0))) ∧ (Below w.heap.size w w')) ?_ ?_
                  rotate_left
                  ·intro hJ5_7
                   refine join_ (σ := Value × Value) 5 #[true, true, true, false, true, true, true, false, true, true, false, false, false] (fun s_ => [(40, s_.1), (44, s_.2)]) (fun s_ w' => (Kd.R (Kd.int .i64) 3 w' w.heap.size (fun k_ => some k_ ≠ (s_.2 : Value).ownBlock) s_.1 y292) ∧ (Kd.R (Kd.int .i64) 3 w' w.heap.size (fun k_ => some k_ ≠ (s_.1 : Value).ownBlock) s_.2 y298) ∧ (w'.heap[gb285]? = some (.cells #[.int .i64 0, .int .i64 0, .int .i64 0, .slice none 0 0, .slice none 0 0, .slice none 0 0, .slice none 0 0, .int .i64 0, .int .i64 0, .bool false] 25 (0, 0))) ∧ (Below w.heap.size w w')) ?_ ?_
                   rotate_left
                   ·intro hJ5_9
                    refine join_ (σ := Value × Value) 5 #[true, true, true, false, true, false, true, true, true, true, false, false, false] (fun s_ => [(42, s_.1), (44, s_.2)]) (fun s_ w' => (Kd.R (Kd.int .i64) 3 w' w.heap.size (fun k_ => some k_ ≠ (s_.2 : Value).ownBlock) s_.1 y295) ∧ (Kd.R (Kd.int .i64) 3 w' w.heap.size (fun k_ => some k_ ≠ (s_.1 : Value).ownBlock) s_.2 y298) ∧ (w'.heap[gb285]? = some (.cells #[.int .i64 0, .int .i64 0, .int .i64 0, .slice none 0 0, .slice none 0 0, .slice none 0 0, .slice none 0 0, .int .i64 0, .int .i64 0, .bool false] 25 (0, 0))) ∧ (Below w.heap.size w w')) ?_ ?_
                    rotate_left
                    ·intro hJ7_9
                     refine join_ (σ := Value) 6 #[true, true, true, true, true, false, true, false, true, false, false, false, false] (fun s_ => [(38, s_)]) (fun s_ w' => (Kd.R (Kd.int .i64) 3 w' w.heap.size (fun _ => True) s_ y289) ∧ (w'.heap[gb285]? = some (.cells #[.int .i64 0, .int .i64 0, .int .i64 0, .slice none 0 0, .slice none 0 0, .slice none 0 0, .slice none 0 0, .int .i64 0, .int .i64 0, .bool false] 25 (0, 0))) ∧ (Below w.heap.size w w')) ?_ ?_
                     rotate_left
                     ·intro hJ3
                      refine join_ (σ := Value) 6 #[true, true, true, false, true, true, true, false, true, false, false, false, false] (fun s_ => [(40, s_)]) (fun s_ w' => (Kd.R (Kd.int .i64) 3 w' w.heap.size (fun _ => True) s_ y292) ∧ (w'.heap[gb285]? = some (.cells #[.int .i64 0, .int .i64 0, .int .i64 0, .slice none 0 0, .slice none 0 0, .slice none 0 0, .slice none 0 0, .int .i64 0, .int .i64 0, .bool false] 25 (0, 0))) ∧ (Below w.heap.size w w')) ?_ ?_
                      rotate_left
                      ·intro hJ5
                       refine join_ (σ := Value) 6 #[true, true, true, false, true, false, true, true, true, false, false, false, false] (fun s_ => [(42, s_)]) (fun s_ w' => (Kd.R (Kd.int .i64) 3 w' w.heap.size (fun _ => True) s_ y295) ∧ (w'.heap[gb285]? = some (.cells #[.int .i64 0, .int .i64 0, .int .i64 0, .slice none 0 0, .slice none 0 0, .slice none 0 0, .slice none 0 0, .int .i64 0, .int .i64 0, .bool false] 25 (0, 0))) ∧ (Below w.heap.size w w')) ?_ ?_
                       rotate_left
                       ·intro hJ7
                        refine join_ (σ := Value) 6 #[true, true, true, false, true, false, true, false, true, true, false, false, false] (fun s_ => [(44, s_)]) (fun s_ w' => (Kd.R (Kd.int .i64) 3 w' w.heap.size (fun _ => True) s_ y298) ∧ (w'.heap[gb285]? = some (.cells #[.int .i64 0, .int .i64 0, .int .i64 0, .slice none 0 0, .slice none 0 0, .slice none 0 0, .slice none 0 0, .int .i64 0, .int .i64 0, .bool false] 25 (0, 0))) ∧ (Below w.heap.size w w')) ?_ ?_
                        rotate_left
                        ·intro hJ9
                         refine four_ (i := 3) (j := 5) (k := 7) (m := 9) (Ni := some 38) (Nj := some 40) (Nk := some 42) (Nm := some 44) #[true, true, true, true, true, false, true, false, true, false, false, false, false] #[true, true, true, false, true, true, true, false, true, false, false, false, false] #[true, true, true, false, true, false, true, true, true, false, false, false, false] #[true, true, true, false, true, false, true, false, true, true, false, false, false] rfl rfl rfl rfl rfl rfl rfl rfl (four_of HT_.out (by kernel_rfl)) (by decide) (by decide) (by decide) (by decide) (fun K hK => ?_) (fun K hK => ?_) (fun K hK => ?_) (fun K hK => ?_)
                         ·skip
                          refine Kd.R_make_step (Kd.int .i64) _ 3 (by rfl) (N := 38) rfl 23 _ _ rfl (((rd_T39 l0 a1).f2).length : Int) rfl rfl Try.underlying23 (.int .i64 0) 8 info3 rfl (by decide) (by omega) 0 (ok := fun _ => True) (okp := fun _ => True) rfl (fun _ hk => hk) trivial (of_decide_eq_true tW_) (Nat.le_trans (Nat.mul_le_mul_right _ (of_decide_eq_true tW_ : (((rd_T39 l0 a1).f2).length : Int).toNat ≤ 35184372088832)) (by omega)) (Below.refl _ _) (Nat.le_refl _) ?_
                          intro v290 w19 ho20 hb hg_ hnew_
                          clear hg_ hnew_
                          (first | rw [← Ny289.out] at ho20 | (simp only [Int.reduceToNat] at ho20; rw [← Ny289.out] at ho20))
                          have HO291 := Aside0.mk (Kd.R_lower ho20 (below_size (dL1_ HB GE285)))
                          replace BK285 := Aside0.mk (blk_below (g := gb285) (o := .cells #[.int .i64 0, .int .i64 0, .int .i64 0, .slice none 0 0, .slice none 0 0, .slice none 0 0, .slice none 0 0, .int .i64 0, .int .i64 0, .bool false] 25 (0, 0)) (dB_ BK285) hb)
                          replace HB := Aside0.mk (below_step (dL1_ HB GE285) hb)
                          clear hb ho20
                          refine hK.out _ _ trivial (fun hHeld => ?_)
                          clear hK K
                          refine norm_ (a' := ?_) ?_ ?_
                          rotate_left
                          ·show Act.put _ (some 38) _ = _
                           simp only [Act.put, sI_, s0_, sS_, i64_w, i32_w]
                           rfl
                          exact norm_ nm_ (hJ3 (v290) _ ⟨(dR_ HO291), (dB_ BK285), (dL1_ HB GE285)⟩)
                         ·skip
                          refine Kd.R_make_step (Kd.int .i64) _ 3 (by rfl) (N := 40) rfl 23 _ _ rfl (((rd_T39 l0 a1).f2).length : Int) rfl rfl Try.underlying23 (.int .i64 0) 8 info3 rfl (by decide) (by omega) 0 (ok := fun _ => True) (okp := fun _ => True) rfl (fun _ hk => hk) trivial (of_decide_eq_true tW_) (Nat.le_trans (Nat.mul_le_mul_right _ (of_decide_eq_true tW_ : (((rd_T39 l0 a1).f2).length : Int).toNat ≤ 35184372088832)) (by omega)) (Below.refl _ _) (Nat.le_refl _) ?_
                          intro v293 w19 ho20 hb hg_ hnew_
                          clear hg_ hnew_
                          (first | rw [← Ny292.out] at ho20 | (simp only [Int.reduceToNat] at ho20; rw [← Ny292.out] at ho20))
                          have HO294 := Aside0.mk (Kd.R_lower ho20 (below_size (dL1_ HB GE285)))
                          replace BK285 := Aside0.mk (blk_below (g := gb285) (o := .cells #[.int .i64 0, .int .i64 0, .int .i64 0, .slice none 0 0, .slice none 0 0, .slice none 0 0, .slice none 0 0, .int .i64 0, .int .i64 0, .bool false] 25 (0, 0)) (dB_ BK285) hb)
                          replace HB := Aside0.mk (below_step (dL1_ HB GE285) hb)
                          clear hb ho20
                          refine hK.out _ _ trivial (fun hHeld => ?_)
                          clear hK K
                          refine norm_ (a' := ?_) ?_ ?_
                          rotate_left
                          ·show Act.put _ (some 40) _ = _
                           simp only [Act.put, sI_, s0_, sS_, i64_w, i32_w]
                           rfl
                          exact norm_ nm_ (hJ5 (v293) _ ⟨(dR_ HO294), (dB_ BK285), (dL1_ HB GE285)⟩)
                         ·skip
                          refine Kd.R_make_step (Kd.int .i64) _ 3 (by rfl) (N := 42) rfl 23 _ _ rfl (((rd_T39 l0 a1).f2).length : Int) rfl rfl Try.underlying23 (.int .i64 0) 8 info3 rfl (by decide) (by omega) 0 (ok := fun _ => True) (okp := fun _ => True) rfl (fun _ hk => hk) trivial (of_decide_eq_true tW_) (Nat.le_trans (Nat.mul_le_mul_right _ (of_decide_eq_true tW_ : (((rd_T39 l0 a1).f2).length : Int).toNat ≤ 35184372088832)) (by omega)) (Below.refl _ _) (Nat.le_refl _) ?_
                          intro v296 w19 ho20 hb hg_ hnew_
                          clear hg_ hnew_
                          (first | rw [← Ny295.out] at ho20 | (simp only [Int.reduceToNat] at ho20; rw [← Ny295.out] at ho20))
                          have HO297 := Aside0.mk (Kd.R_lower ho20 (below_size (dL1_ HB GE285)))
                          replace BK285 := Aside0.mk (blk_below (g := gb285) (o := .cells #[.int .i64 0, .int .i64 0, .int .i64 0, .slice none 0 0, .slice none 0 0, .slice none 0 0, .slice none 0 0, .int .i64 0, .int .i64 0, .bool false] 25 (0, 0)) (dB_ BK285) hb)
                          replace HB := Aside0.mk (below_step (dL1_ HB GE285) hb)
                          clear hb ho20
                          refine hK.out _ _ trivial (fun hHeld => ?_)
                          clear hK K
                          refine norm_ (a' := ?_) ?_ ?_
                          rotate_left
                          ·show Act.put _ (some 42) _ = _
                           simp only [Act.put, sI_, s0_, sS_, i64_w, i32_w]
                           rfl
                          exact norm_ nm_ (hJ7 (v296) _ ⟨(dR_ HO297), (dB_ BK285), (dL1_ HB GE285)⟩)
                         ·skip
                          refine Kd.R_make_step (Kd.int .i64) _ 3 (by rfl) (N := 44) rfl 23 _ _ rfl (((rd_T39 l0 a1).f2).length : Int) rfl rfl Try.underlying23 (.int .i64 0) 8 info3 rfl (by decide) (by omega) 0 (ok := fun _ => True) (okp := fun _ => True) rfl (fun _ hk => hk) trivial (of_decide_eq_true tW_) (Nat.le_trans (Nat.mul_le_mul_right _ (of_decide_eq_true tW_ : (((rd_T39 l0 a1).f2).length : Int).toNat ≤ 35184372088832)) (by omega)) (Below.refl _ _) (Nat.le_refl _) ?_
                          intro v299 w19 ho20 hb hg_ hnew_
                          clear hg_ hnew_
                          (first | rw [← Ny298.out] at ho20 | (simp only [Int.reduceToNat] at ho20; rw [← Ny298.out] at ho20))
                          have HO300 := Aside0.mk (Kd.R_lower ho20 (below_size (dL1_ HB GE285)))
                          replace BK285 := Aside0.mk (blk_below (g := gb285) (o := .cells #[.int .i64 0, .int .i64 0, .int .i64 0, .slice none 0 0, .slice none 0 0, .slice none 0 0, .slice none 0 0, .int .i64 0, .int .i64 0, .bool false] 25 (0, 0)) (dB_ BK285) hb)
                          replace HB := Aside0.mk (below_step (dL1_ HB GE285) hb)
                          clear hb ho20
                          refine hK.out _ _ trivial (fun hHeld => ?_)
                          clear hK K
                          refine norm_ (a' := ?_) ?_ ?_
                          rotate_left
                          ·show Act.put _ (some 44) _ = _
                           simp only [Act.put, sI_, s0_, sS_, i64_w, i32_w]
                           rfl
                          exact norm_ nm_ (hJ9 (v299) _ ⟨(dR_ HO300), (dB_ BK285), (dL1_ HB GE285)⟩)
                        ·skip
                         rintro v299 w21 ⟨h0_, h1_, h2_⟩
                         have n0_ : Aside0 (Kd.R (Kd.int .i64) 3 w21 w.heap.size (fun _ => True) v299 y298) := ⟨h0_⟩
                         have n1_ : Aside0 (w21.heap[gb285]? = some (.cells #[.int .i64 0, .int .i64 0, .int .i64 0, .slice none 0 0, .slice none 0 0, .slice none 0 0, .slice none 0 0, .int .i64 0, .int .i64 0, .bool false] 25 (0, 0))) := ⟨h1_⟩
                         have n2_ : Aside0 (Below w.heap.size w w21) := ⟨h2_⟩
                         clear BK285
                         clear HB
                         clear h0_ h1_ h2_
                         have HO300 := n0_
                         have BK285 := n1_
                         have HB := n2_
                         clear n0_ n1_ n2_
                         have hHeld := trivial
                         refine norm_ (a' := ?_) ?_ ?_
                         rotate_left
                         ·simp only [putAll, Act.put, sI_, s0_, sS_]
                          rfl
                         refine three_ (i := 3) (j := 5) (k := 7) (Ni := some 38) (Nj := some 40) (Nk := some 42) #[true, true, true, true, true, false, true, false, true, true, false, false, false] #[true, true, true, false, true, true, true, false, true, true, false, false, false] #[true, true, true, false, true, false, true, true, true, true, false, false, false] rfl rfl rfl rfl rfl rfl (three_of HT_.out (by kernel_rfl)) (by decide) (by decide) (by decide) (fun K hK => ?_) (fun K hK => ?_) (fun K hK => ?_)
                         ·skip
                          refine Kd.R_make_step (Kd.int .i64) _ 3 (by rfl) (N := 38) rfl 23 _ _ rfl (((rd_T39 l0 a1).f2).length : Int) rfl rfl Try.underlying23 (.int .i64 0) 8 info3 rfl (by decide) (by omega) 0 (ok := fun _ => True) (okp := fun _ => True) rfl (fun _ hk => hk) trivial (of_decide_eq_true tW_) (Nat.le_trans (Nat.mul_le_mul_right _ (of_decide_eq_true tW_ : (((rd_T39 l0 a1).f2).length : Int).toNat ≤ 35184372088832)) (by omega)) (Below.refl _ _) (Nat.le_refl _) ?_
                          intro v290 w22 ho23 hb hg_ hnew_
                          clear hg_ hnew_
                          (first | rw [← Ny289.out] at ho23 | (simp only [Int.reduceToNat] at ho23; rw [← Ny289.out] at ho23))
                          have HO291 := Aside0.mk (Kd.R_lower (Kd.R_new' ho23 (Kd.R_lt (dR_ HO300))) (below_size (dL1_ HB GE285)))
                          replace HO300 := Aside0.mk (Kd.R_elder' (dR_ HO300) (Kd.R_base ho23) hb)
                          replace BK285 := Aside0.mk (blk_below (g := gb285) (o := .cells #[.int .i64 0, .int .i64 0, .int .i64 0, .slice none 0 0, .slice none 0 0, .slice none 0 0, .slice none 0 0, .int .i64 0, .int .i64 0, .bool false] 25 (0, 0)) (dB_ BK285) hb)
                          replace HB := Aside0.mk (below_step (dL1_ HB GE285) hb)
                          clear hb ho23
                          refine hK.out _ _ trivial (fun hHeld => ?_)
                          clear hK K
                          refine norm_ (a' := ?_) ?_ ?_
                          rotate_left
                          ·show Act.put _ (some 38) _ = _
                           simp only [Act.put, sI_, s0_, sS_, i64_w, i32_w]
                           rfl
                          exact norm_ nm_ (hJ3_9 (v290, v299) _ ⟨(by (with_reducible repeat (first | apply Kd.R_alloc | apply Kd.R_drewN | apply Kd.R_drew)); exact Kd.R_mono HO291.out (fun _ hk => hk.2)), (by (with_reducible repeat (first | apply Kd.R_alloc | apply Kd.R_drewN | apply Kd.R_drew)); exact Kd.R_mono HO300.out (fun _ hk => hk.2)), (dB_ BK285), (dL1_ HB GE285)⟩)
                         ·skip
                          refine Kd.R_make_step (Kd.int .i64) _ 3 (by rfl) (N := 40) rfl 23 _ _ rfl (((rd_T39 l0 a1).f2).length : Int) rfl rfl Try.underlying23 (.int .i64 0) 8 info3 rfl (by decide) (by omega) 0 (ok := fun _ => True) (okp := fun _ => True) rfl (fun _ hk => hk) trivial (of_decide_eq_true tW_) (Nat.le_trans (Nat.mul_le_mul_right _ (of_decide_eq_true tW_ : (((rd_T39 l0 a1).f2).length : Int).toNat ≤ 35184372088832)) (by omega)) (Below.refl _ _) (Nat.le_refl _) ?_
                          intro v293 w22 ho23 hb hg_ hnew_
                          clear hg_ hnew_
                          (first | rw [← Ny292.out] at ho23 | (simp only [Int.reduceToNat] at ho23; rw [← Ny292.out] at ho23))
                          have HO294 := Aside0.mk (Kd.R_lower (Kd.R_new' ho23 (Kd.R_lt (dR_ HO300))) (below_size (dL1_ HB GE285)))
                          replace HO300 := Aside0.mk (Kd.R_elder' (dR_ HO300) (Kd.R_base ho23) hb)
                          replace BK285 := Aside0.mk (blk_below (g := gb285) (o := .cells #[.int .i64 0, .int .i64 0, .int .i64 0, .slice none 0 0, .slice none 0 0, .slice none 0 0, .slice none 0 0, .int .i64 0, .int .i64 0, .bool false] 25 (0, 0)) (dB_ BK285) hb)
                          replace HB := Aside0.mk (below_step (dL1_ HB GE285) hb)
                          clear hb ho23
                          refine hK.out _ _ trivial (fun hHeld => ?_)
                          clear hK K
                          refine norm_ (a' := ?_) ?_ ?_
                          rotate_left
                          ·show Act.put _ (some 40) _ = _
                           simp only [Act.put, sI_, s0_, sS_, i64_w, i32_w]
                           rfl
                          exact norm_ nm_ (hJ5_9 (v293, v299) _ ⟨(by (with_reducible repeat (first | apply Kd.R_alloc | apply Kd.R_drewN | apply Kd.R_drew)); exact Kd.R_mono HO294.out (fun _ hk => hk.2)), (by (with_reducible repeat (first | apply Kd.R_alloc | apply Kd.R_drewN | apply Kd.R_drew)); exact Kd.R_mono HO300.out (fun _ hk => hk.2)), (dB_ BK285), (dL1_ HB GE285)⟩)
                         ·skip
                          refine Kd.R_make_step (Kd.int .i64) _ 3 (by rfl) (N := 42) rfl 23 _ _ rfl (((rd_T39 l0 a1).f2).length : Int) rfl rfl Try.underlying23 (.int .i64 0) 8 info3 rfl (by decide) (by omega) 0 (ok := fun _ => True) (okp := fun _ => True) rfl (fun _ hk => hk) trivial (of_decide_eq_true tW_) (Nat.le_trans (Nat.mul_le_mul_right _ (of_decide_eq_true tW_ : (((rd_T39 l0 a1).f2).length : Int).toNat ≤ 35184372088832)) (by omega)) (Below.refl _ _) (Nat.le_refl _) ?_
                          intro v296 w22 ho23 hb hg_ hnew_
                          clear hg_ hnew_
                          (first | rw [← Ny295.out] at ho23 | (simp only [Int.reduceToNat] at ho23; rw [← Ny295.out] at ho23))
                          have HO297 := Aside0.mk (Kd.R_lower (Kd.R_new' ho23 (Kd.R_lt (dR_ HO300))) (below_size (dL1_ HB GE285)))
                          replace HO300 := Aside0.mk (Kd.R_elder' (dR_ HO300) (Kd.R_base ho23) hb)
                          replace BK285 := Aside0.mk (blk_below (g := gb285) (o := .cells #[.int .i64 0, .int .i64 0, .int .i64 0, .slice none 0 0, .slice none 0 0, .slice none 0 0, .slice none 0 0, .int .i64 0, .int .i64 0, .bool false] 25 (0, 0)) (dB_ BK285) hb)
                          replace HB := Aside0.mk (below_step (dL1_ HB GE285) hb)
                          clear hb ho23
                          refine hK.out _ _ trivial (fun hHeld => ?_)
                          clear hK K
                          refine norm_ (a' := ?_) ?_ ?_
                          rotate_left
                          ·show Act.put _ (some 42) _ = _
                           simp only [Act.put, sI_, s0_, sS_, i64_w, i32_w]
                           rfl
                          exact norm_ nm_ (hJ7_9 (v296, v299) _ ⟨(by (with_reducible repeat (first | apply Kd.R_alloc | apply Kd.R_drewN | apply Kd.R_drew)); exact Kd.R_mono HO297.out (fun _ hk => hk.2)), (by (with_reducible repeat (first | apply Kd.R_alloc | apply Kd.R_drewN | apply Kd.R_drew)); exact Kd.R_mono HO300.out (fun _ hk => hk.2)), (dB_ BK285), (dL1_ HB GE285)⟩)
                       ·skip
                        rintro v296 w21 ⟨h0_, h1_, h2_⟩
                        have n0_ : Aside0 (Kd.R (Kd.int .i64) 3 w21 w.heap.size (fun _ => True) v296 y295) := ⟨h0_⟩
                        have n1_ : Aside0 (w21.heap[gb285]? = some (.cells #[.int .i64 0, .int .i64 0, .int .i64 0, .slice none 0 0, .slice none 0 0, .slice none 0 0, .slice none 0 0, .int .i64 0, .int .i64 0, .bool false] 25 (0, 0))) := ⟨h1_⟩
                        have n2_ : Aside0 (Below w.heap.size w w21) := ⟨h2_⟩
                        clear BK285
                        clear HB
                        clear h0_ h1_ h2_
                        have HO297 := n0_
                        have BK285 := n1_
                        have HB := n2_
                        clear n0_ n1_ n2_
                        have hHeld := trivial
                        refine norm_ (a' := ?_) ?_ ?_
                        rotate_left
                        ·simp only [putAll, Act.put, sI_, s0_, sS_]
                         rfl
                        refine three_ (i := 3) (j := 5) (k := 9) (Ni := some 38) (Nj := some 40) (Nk := some 44) #[true, true, true, true, true, false, true, true, true, false, false, false, false] #[true, true, true, false, true, true, true, true, true, false, false, false, false] #[true, true, true, false, true, false, true, true, true, true, false, false, false] rfl rfl rfl rfl rfl rfl (three_of HT_.out (by kernel_rfl)) (by decide) (by decide) (by decide) (fun K hK => ?_) (fun K hK => ?_) (fun K hK => ?_)
                        ·skip
                         refine Kd.R_make_step (Kd.int .i64) _ 3 (by rfl) (N := 38) rfl 23 _ _ rfl (((rd_T39 l0 a1).f2).length : Int) rfl rfl Try.underlying23 (.int .i64 0) 8 info3 rfl (by decide) (by omega) 0 (ok := fun _ => True) (okp := fun _ => True) rfl (fun _ hk => hk) trivial (of_decide_eq_true tW_) (Nat.le_trans (Nat.mul_le_mul_right _ (of_decide_eq_true tW_ : (((rd_T39 l0 a1).f2).length : Int).toNat ≤ 35184372088832)) (by omega)) (Below.refl _ _) (Nat.le_refl _) ?_
                         intro v290 w22 ho23 hb hg_ hnew_
                         clear hg_ hnew_
                         (first | rw [← Ny289.out] at ho23 | (simp only [Int.reduceToNat] at ho23; rw [← Ny289.out] at ho23))
                         have HO291 := Aside0.mk (Kd.R_lower (Kd.R_new' ho23 (Kd.R_lt (dR_ HO297))) (below_size (dL1_ HB GE285)))
                         replace HO297 := Aside0.mk (Kd.R_elder' (dR_ HO297) (Kd.R_base ho23) hb)
                         replace BK285 := Aside0.mk (blk_below (g := gb285) (o := .cells #[.int .i64 0, .int .i64 0, .int .i64 0, .slice none 0 0, .slice none 0 0, .slice none 0 0, .slice none 0 0, .int .i64 0, .int .i64 0, .bool false] 25 (0, 0)) (dB_ BK285) hb)
                         replace HB := Aside0.mk (below_step (dL1_ HB GE285) hb)
                         clear hb ho23
                         refine hK.out _ _ trivial (fun hHeld => ?_)
                         clear hK K
                         refine norm_ (a' := ?_) ?_ ?_
                         rotate_left
                         ·show Act.put _ (some 38) _ = _
                          simp only [Act.put, sI_, s0_, sS_, i64_w, i32_w]
                          rfl
                         exact norm_ nm_ (hJ3_7 (v290, v296) _ ⟨(by (with_reducible repeat (first | apply Kd.R_alloc | apply Kd.R_drewN | apply Kd.R_drew)); exact Kd.R_mono HO291.out (fun _ hk => hk.2)), (by (with_reducible repeat (first | apply Kd.R_alloc | apply Kd.R_drewN | apply Kd.R_drew)); exact Kd.R_mono HO297.out (fun _ hk => hk.2)), (dB_ BK285), (dL1_ HB GE285)⟩)
                        ·skip
                         refine Kd.R_make_step (Kd.int .i64) _ 3 (by rfl) (N := 40) rfl 23 _ _ rfl (((rd_T39 l0 a1).f2).length : Int) rfl rfl Try.underlying23 (.int .i64 0) 8 info3 rfl (by decide) (by omega) 0 (ok := fun _ => True) (okp := fun _ => True) rfl (fun _ hk => hk) trivial (of_decide_eq_true tW_) (Nat.le_trans (Nat.mul_le_mul_right _ (of_decide_eq_true tW_ : (((rd_T39 l0 a1).f2).length : Int).toNat ≤ 35184372088832)) (by omega)) (Below.refl _ _) (Nat.le_refl _) ?_
                         intro v293 w22 ho23 hb hg_ hnew_
                         clear hg_ hnew_
                         (first | rw [← Ny292.out] at ho23 | (simp only [Int.reduceToNat] at ho23; rw [← Ny292.out] at ho23))
                         have HO294 := Aside0.mk (Kd.R_lower (Kd.R_new' ho23 (Kd.R_lt (dR_ HO297))) (below_size (dL1_ HB GE285)))
                         replace HO297 := Aside0.mk (Kd.R_elder' (dR_ HO297) (Kd.R_base ho23) hb)
                         replace BK285 := Aside0.mk (blk_below (g := gb285) (o := .cells #[.int .i64 0, .int .i64 0, .int .i64 0, .slice none 0 0, .slice none 0 0, .slice none 0 0, .slice none 0 0, .int .i64 0, .int .i64 0, .bool false] 25 (0, 0)) (dB_ BK285) hb)
                         replace HB := Aside0.mk (below_step (dL1_ HB GE285) hb)
                         clear hb ho23
                         refine hK.out _ _ trivial (fun hHeld => ?_)
                         clear hK K
                         refine norm_ (a' := ?_) ?_ ?_
                         rotate_left
                         ·show Act.put _ (some 40) _ = _
                          simp only [Act.put, sI_, s0_, sS_, i64_w, i32_w]
                          rfl
                         exact norm_ nm_ (hJ5_7 (v293, v296) _ ⟨(by (with_reducible repeat (first | apply Kd.R_alloc | apply Kd.R_drewN | apply Kd.R_drew)); exact Kd.R_mono HO294.out (fun _ hk => hk.2)), (by (with_reducible repeat (first | apply Kd.R_alloc | apply Kd.R_drewN | apply Kd.R_drew)); exact Kd.R_mono HO297.out (fun _ hk => hk.2)), (dB_ BK285), (dL1_ HB GE285)⟩)
                        ·skip
                         refine Kd.R_make_step (Kd.int .i64) _ 3 (by rfl) (N := 44) rfl 23 _ _ rfl (((rd_T39 l0 a1).f2).length : Int) rfl rfl Try.underlying23 (.int .i64 0) 8 info3 rfl (by decide) (by omega) 0 (ok := fun _ => True) (okp := fun _ => True) rfl (fun _ hk => hk) trivial (of_decide_eq_true tW_) (Nat.le_trans (Nat.mul_le_mul_right _ (of_decide_eq_true tW_ : (((rd_T39 l0 a1).f2).length : Int).toNat ≤ 35184372088832)) (by omega)) (Below.refl _ _) (Nat.le_refl _) ?_
                         intro v299 w22 ho23 hb hg_ hnew_
                         clear hg_ hnew_
                         (first | rw [← Ny298.out] at ho23 | (simp only [Int.reduceToNat] at ho23; rw [← Ny298.out] at ho23))
                         have HO300 := Aside0.mk (Kd.R_lower (Kd.R_new' ho23 (Kd.R_lt (dR_ HO297))) (below_size (dL1_ HB GE285)))
                         replace HO297 := Aside0.mk (Kd.R_elder' (dR_ HO297) (Kd.R_base ho23) hb)
                         replace BK285 := Aside0.mk (blk_below (g := gb285) (o := .cells #[.int .i64 0, .int .i64 0, .int .i64 0, .slice none 0 0, .slice none 0 0, .slice none 0 0, .slice none 0 0, .int .i64 0, .int .i64 0, .bool false] 25 (0, 0)) (dB_ BK285) hb)
                         replace HB := Aside0.mk (below_step (dL1_ HB GE285) hb)
                         clear hb ho23
                         refine hK.out _ _ trivial (fun hHeld => ?_)
                         clear hK K
                         refine norm_ (a' := ?_) ?_ ?_
                         rotate_left
                         ·show Act.put _ (some 44) _ = _
                          simp only [Act.put, sI_, s0_, sS_, i64_w, i32_w]
                          rfl
                         exact norm_ nm_ (hJ7_9 (v296, v299) _ ⟨(by (with_reducible repeat (first | apply Kd.R_alloc | apply Kd.R_drewN | apply Kd.R_drew)); exact Kd.R_mono HO297.out (fun _ hk => hk.2)), (by (with_reducible repeat (first | apply Kd.R_alloc | apply Kd.R_drewN | apply Kd.R_drew)); exact Kd.R_mono HO300.out (fun _ hk => hk.2)), (dB_ BK285), (dL1_ HB GE285)⟩)
                      ·skip
                       rintro v293 w21 ⟨h0_, h1_, h2_⟩
                       have n0_ : Aside0 (Kd.R (Kd.int .i64) 3 w21 w.heap.size (fun _ => True) v293 y292) := ⟨h0_⟩
                       have n1_ : Aside0 (w21.heap[gb285]? = some (.cells #[.int .i64 0, .int .i64 0, .int .i64 0, .slice none 0 0, .slice none 0 0, .slice none 0 0, .slice none 0 0, .int .i64 0, .int .i64 0, .bool false] 25 (0, 0))) := ⟨h1_⟩
                       have n2_ : Aside0 (Below w.heap.size w w21) := ⟨h2_⟩
                       clear BK285
                       clear HB
                       clear h0_ h1_ h2_
                       have HO294 := n0_
                       have BK285 := n1_
                       have HB := n2_
                       clear n0_ n1_ n2_
                       have hHeld := trivial
                       refine norm_ (a' := ?_) ?_ ?_
                       rotate_left
                       ·simp only [putAll, Act.put, sI_, s0_, sS_]
                        rfl
                       refine three_ (i := 3) (j := 7) (k := 9) (Ni := some 38) (Nj := some 42) (Nk := some 44) #[true, true, true, true, true, true, true, false, true, false, false, false, false] #[true, true, true, false, true, true, true, true, true, false, false, false, false] #[true, true, true, false, true, true, true, false, true, true, false, false, false] rfl rfl rfl rfl rfl rfl (three_of HT_.out (by kernel_rfl)) (by decide) (by decide) (by decide) (fun K hK => ?_) (fun K hK => ?_) (fun K hK => ?_)
                       ·skip
                        refine Kd.R_make_step (Kd.int .i64) _ 3 (by rfl) (N := 38) rfl 23 _ _ rfl (((rd_T39 l0 a1).f2).length : Int) rfl rfl Try.underlying23 (.int .i64 0) 8 info3 rfl (by decide) (by omega) 0 (ok := fun _ => True) (okp := fun _ => True) rfl (fun _ hk => hk) trivial (of_decide_eq_true tW_) (Nat.le_trans (Nat.mul_le_mul_right _ (of_decide_eq_true tW_ : (((rd_T39 l0 a1).f2).length : Int).toNat ≤ 35184372088832)) (by omega)) (Below.refl _ _) (Nat.le_refl _) ?_
                        intro v290 w22 ho23 hb hg_ hnew_
                        clear hg_ hnew_
                        (first | rw [← Ny289.out] at ho23 | (simp only [Int.reduceToNat] at ho23; rw [← Ny289.out] at ho23))
                        have HO291 := Aside0.mk (Kd.R_lower (Kd.R_new' ho23 (Kd.R_lt (dR_ HO294))) (below_size (dL1_ HB GE285)))
                        replace HO294 := Aside0.mk (Kd.R_elder' (dR_ HO294) (Kd.R_base ho23) hb)
                        replace BK285 := Aside0.mk (blk_below (g := gb285) (o := .cells #[.int .i64 0, .int .i64 0, .int .i64 0, .slice none 0 0, .slice none 0 0, .slice none 0 0, .slice none 0 0, .int .i64 0, .int .i64 0, .bool false] 25 (0, 0)) (dB_ BK285) hb)
                        replace HB := Aside0.mk (below_step (dL1_ HB GE285) hb)
                        clear hb ho23
                        refine hK.out _ _ trivial (fun hHeld => ?_)
                        clear hK K
                        refine norm_ (a' := ?_) ?_ ?_
                        rotate_left
                        ·show Act.put _ (some 38) _ = _
                         simp only [Act.put, sI_, s0_, sS_, i64_w, i32_w]
                         rfl
                        exact norm_ nm_ (hJ3_5 (v290, v293) _ ⟨(by (with_reducible repeat (first | apply Kd.R_alloc | apply Kd.R_drewN | apply Kd.R_drew)); exact Kd.R_mono HO291.out (fun _ hk => hk.2)), (by (with_reducible repeat (first | apply Kd.R_alloc | apply Kd.R_drewN | apply Kd.R_drew)); exact Kd.R_mono HO294.out (fun _ hk => hk.2)), (dB_ BK285), (dL1_ HB GE285)⟩)
                       ·skip
                        refine Kd.R_make_step (Kd.int .i64) _ 3 (by rfl) (N := 42) rfl 23 _ _ rfl (((rd_T39 l0 a1).f2).length : Int) rfl rfl Try.underlying23 (.int .i64 0) 8 info3 rfl (by decide) (by omega) 0 (ok := fun _ => True) (okp := fun _ => True) rfl (fun _ hk => hk) trivial (of_decide_eq_true tW_) (Nat.le_trans (Nat.mul_le_mul_right _ (of_decide_eq_true tW_ : (((rd_T39 l0 a1).f2).length : Int).toNat ≤ 35184372088832)) (by omega)) (Below.refl _ _) (Nat.le_refl _) ?_
                        intro v296 w22 ho23 hb hg_ hnew_
                        clear hg_ hnew_
                        (first | rw [← Ny295.out] at ho23 | (simp only [Int.reduceToNat] at ho23; rw [← Ny295.out] at ho23))
                        have HO297 := Aside0.mk (Kd.R_lower (Kd.R_new' ho23 (Kd.R_lt (dR_ HO294))) (below_size (dL1_ HB GE285)))
                        replace HO294 := Aside0.mk (Kd.R_elder' (dR_ HO294) (Kd.R_base ho23) hb)
                        replace BK285 := Aside0.mk (blk_below (g := gb285) (o := .cells #[.int .i64 0, .int .i64 0, .int .i64 0, .slice none 0 0, .slice none 0 0, .slice none 0 0, .slice none 0 0, .int .i64 0, .int .i64 0, .bool false] 25 (0, 0)) (dB_ BK285) hb)
                        replace HB := Aside0.mk (below_step (dL1_ HB GE285) hb)
                        clear hb ho23
                        refine hK.out _ _ trivial (fun hHeld => ?_)
                        clear hK K
                        refine norm_ (a' := ?_) ?_ ?_
                        rotate_left
                        ·show Act.put _ (some 42) _ = _
                         simp only [Act.put, sI_, s0_, sS_, i64_w, i32_w]
                         rfl
                        exact norm_ nm_ (hJ5_7 (v293, v296) _ ⟨(by (with_reducible repeat (first | apply Kd.R_alloc | apply Kd.R_drewN | apply Kd.R_drew)); exact Kd.R_mono HO294.out (fun _ hk => hk.2)), (by (with_reducible repeat (first | apply Kd.R_alloc | apply Kd.R_drewN | apply Kd.R_drew)); exact Kd.R_mono HO297.out (fun _ hk => hk.2)), (dB_ BK285), (dL1_ HB GE285)⟩)
                       ·skip
                        refine Kd.R_make_step (Kd.int .i64) _ 3 (by rfl) (N := 44) rfl 23 _ _ rfl (((rd_T39 l0 a1).f2).length : Int) rfl rfl Try.underlying23 (.int .i64 0) 8 info3 rfl (by decide) (by omega) 0 (ok := fun _ => True) (okp := fun _ => True) rfl (fun _ hk => hk) trivial (of_decide_eq_true tW_) (Nat.le_trans (Nat.mul_le_mul_right _ (of_decide_eq_true tW_ : (((rd_T39 l0 a1).f2).length : Int).toNat ≤ 35184372088832)) (by omega)) (Below.refl _ _) (Nat.le_refl _) ?_
                        intro v299 w22 ho23 hb hg_ hnew_
                        clear hg_ hnew_
                        (first | rw [← Ny298.out] at ho23 | (simp only [Int.reduceToNat] at ho23; rw [← Ny298.out] at ho23))
                        have HO300 := Aside0.mk (Kd.R_lower (Kd.R_new' ho23 (Kd.R_lt (dR_ HO294))) (below_size (dL1_ HB GE285)))
                        replace HO294 := Aside0.mk (Kd.R_elder' (dR_ HO294) (Kd.R_base ho23) hb)
                        replace BK285 := Aside0.mk (blk_below (g := gb285) (o := .cells #[.int .i64 0, .int .i64 0, .int .i64 0, .slice none 0 0, .slice none 0 0, .slice none 0 0, .slice none 0 0, .int .i64 0, .int .i64 0, .bool false] 25 (0, 0)) (dB_ BK285) hb)
                        replace HB := Aside0.mk (below_step (dL1_ HB GE285) hb)
                        clear hb ho23
                        refine hK.out _ _ trivial (fun hHeld => ?_)
                        clear hK K
                        refine norm_ (a' := ?_) ?_ ?_
                        rotate_left
                        ·show Act.put _ (some 44) _ = _
                         simp only [Act.put, sI_, s0_, sS_, i64_w, i32_w]
                         rfl
                        exact norm_ nm_ (hJ5_9 (v293, v299) _ ⟨(by (with_reducible repeat (first | apply Kd.R_alloc | apply Kd.R_drewN | apply Kd.R_drew)); exact Kd.R_mono HO294.out (fun _ hk => hk.2)), (by (with_reducible repeat (first | apply Kd.R_alloc | apply Kd.R_drewN | apply Kd.R_drew)); exact Kd.R_mono HO300.out (fun _ hk => hk.2)), (dB_ BK285), (dL1_ HB GE285)⟩)
                     ·skip
                      rintro v290 w21 ⟨h0_, h1_, h2_⟩
                      have n0_ : Aside0 (Kd.R (Kd.int .i64) 3 w21 w.heap.size (fun _ => True) v290 y289) := ⟨h0_⟩
                      have n1_ : Aside0 (w21.heap[gb285]? = some (.cells #[.int .i64 0, .int .i64 0, .int .i64 0, .slice none 0 0, .slice none 0 0, .slice none 0 0, .slice none 0 0, .int .i64 0, .int .i64 0, .bool false] 25 (0, 0))) := ⟨h1_⟩
                      have n2_ : Aside0 (Below w.heap.size w w21) := ⟨h2_⟩
                      clear BK285
                      clear HB
                      clear h0_ h1_ h2_
                      have HO291 := n0_
                      have BK285 := n1_
                      have HB := n2_
                      clear n0_ n1_ n2_
                      have hHeld := trivial
                      refine norm_ (a' := ?_) ?_ ?_
                      rotate_left
                      ·simp only [putAll, Act.put, sI_, s0_, sS_]
                       rfl
                      refine three_ (i := 5) (j := 7) (k := 9) (Ni := some 40) (Nj := some 42) (Nk := some 44) #[true, true, true, true, true, true, true, false, true, false, false, false, false] #[true, true, true, true, true, false, true, true, true, false, false, false, false] #[true, true, true, true, true, false, true, false, true, true, false, false, false] rfl rfl rfl rfl rfl rfl (three_of HT_.out (by kernel_rfl)) (by decide) (by decide) (by decide) (fun K hK => ?_) (fun K hK => ?_) (fun K hK => ?_)
                      ·skip
                       refine Kd.R_make_step (Kd.int .i64) _ 3 (by rfl) (N := 40) rfl 23 _ _ rfl (((rd_T39 l0 a1).f2).length : Int) rfl rfl Try.underlying23 (.int .i64 0) 8 info3 rfl (by decide) (by omega) 0 (ok := fun _ => True) (okp := fun _ => True) rfl (fun _ hk => hk) trivial (of_decide_eq_true tW_) (Nat.le_trans (Nat.mul_le_mul_right _ (of_decide_eq_true tW_ : (((rd_T39 l0 a1).f2).length : Int).toNat ≤ 35184372088832)) (by omega)) (Below.refl _ _) (Nat.le_refl _) ?_
                       intro v293 w22 ho23 hb hg_ hnew_
                       clear hg_ hnew_
                       (first | rw [← Ny292.out] at ho23 | (simp only [Int.reduceToNat] at ho23; rw [← Ny292.out] at ho23))
                       have HO294 := Aside0.mk (Kd.R_lower (Kd.R_new' ho23 (Kd.R_lt (dR_ HO291))) (below_size (dL1_ HB GE285)))
                       replace HO291 := Aside0.mk (Kd.R_elder' (dR_ HO291) (Kd.R_base ho23) hb)
                       replace BK285 := Aside0.mk (blk_below (g := gb285) (o := .cells #[.int .i64 0, .int .i64 0, .int .i64 0, .slice none 0 0, .slice none 0 0, .slice none 0 0, .slice none 0 0, .int .i64 0, .int .i64 0, .bool false] 25 (0, 0)) (dB_ BK285) hb)
                       replace HB := Aside0.mk (below_step (dL1_ HB GE285) hb)
                       clear hb ho23
                       refine hK.out _ _ trivial (fun hHeld => ?_)
                       clear hK K
                       refine norm_ (a' := ?_) ?_ ?_
                       rotate_left
                       ·show Act.put _ (some 40) _ = _
                        simp only [Act.put, sI_, s0_, sS_, i64_w, i32_w]
                        rfl
                       exact norm_ nm_ (hJ3_5 (v290, v293) _ ⟨(by (with_reducible repeat (first | apply Kd.R_alloc | apply Kd.R_drewN | apply Kd.R_drew)); exact Kd.R_mono HO291.out (fun _ hk => hk.2)), (by (with_reducible repeat (first | apply Kd.R_alloc | apply Kd.R_drewN | apply Kd.R_drew)); exact Kd.R_mono HO294.out (fun _ hk => hk.2)), (dB_ BK285), (dL1_ HB GE285)⟩)
                      ·skip
                       refine Kd.R_make_step (Kd.int .i64) _ 3 (by rfl) (N := 42) rfl 23 _ _ rfl (((rd_T39 l0 a1).f2).length : Int) rfl rfl Try.underlying23 (.int .i64 0) 8 info3 rfl (by decide) (by omega) 0 (ok := fun _ => True) (okp := fun _ => True) rfl (fun _ hk => hk) trivial (of_decide_eq_true tW_) (Nat.le_trans (Nat.mul_le_mul_right _ (of_decide_eq_true tW_ : (((rd_T39 l0 a1).f2).length : Int).toNat ≤ 35184372088832)) (by omega)) (Below.refl _ _) (Nat.le_refl _) ?_
                       intro v296 w22 ho23 hb hg_ hnew_
                       clear hg_ hnew_
                       (first | rw [← Ny295.out] at ho23 | (simp only [Int.reduceToNat] at ho23; rw [← Ny295.out] at ho23))
                       have HO297 := Aside0.mk (Kd.R_lower (Kd.R_new' ho23 (Kd.R_lt (dR_ HO291))) (below_size (dL1_ HB GE285)))
                       replace HO291 := Aside0.mk (Kd.R_elder' (dR_ HO291) (Kd.R_base ho23) hb)
                       replace BK285 := Aside0.mk (blk_below (g := gb285) (o := .cells #[.int .i64 0, .int .i64 0, .int .i64 0, .slice none 0 0, .slice none 0 0, .slice none 0 0, .slice none 0 0, .int .i64 0, .int .i64 0, .bool false] 25 (0, 0)) (dB_ BK285) hb)
                       replace HB := Aside0.mk (below_step (dL1_ HB GE285) hb)
                       clear hb ho23
                       refine hK.out _ _ trivial (fun hHeld => ?_)
                       clear hK K
                       refine norm_ (a' := ?_) ?_ ?_
                       rotate_left
                       ·show Act.put _ (some 42) _ = _
                        simp only [Act.put, sI_, s0_, sS_, i64_w, i32_w]
                        rfl
                       exact norm_ nm_ (hJ3_7 (v290, v296) _ ⟨(by (with_reducible repeat (first | apply Kd.R_alloc | apply Kd.R_drewN | apply Kd.R_drew)); exact Kd.R_mono HO291.out (fun _ hk => hk.2)), (by (with_reducible repeat (first | apply Kd.R_alloc | apply Kd.R_drewN | apply Kd.R_drew)); exact Kd.R_mono HO297.out (fun _ hk => hk.2)), (dB_ BK285), (dL1_ HB GE285)⟩)
                      ·skip
                       refine Kd.R_make_step (Kd.int .i64) _ 3 (by rfl) (N := 44) rfl 23 _ _ rfl (((rd_T39 l0 a1).f2).length : Int) rfl rfl Try.underlying23 (.int .i64 0) 8 info3 rfl (by decide) (by omega) 0 (ok := fun _ => True) (okp := fun _ => True) rfl (fun _ hk => hk) trivial (of_decide_eq_true tW_) (Nat.le_trans (Nat.mul_le_mul_right _ (of_decide_eq_true tW_ : (((rd_T39 l0 a1).f2).length : Int).toNat ≤ 35184372088832)) (by omega)) (Below.refl _ _) (Nat.le_refl _) ?_
                       intro v299 w22 ho23 hb hg_ hnew_
                       clear hg_ hnew_
                       (first | rw [← Ny298.out] at ho23 | (simp only [Int.reduceToNat] at ho23; rw [← Ny298.out] at ho23))
                       have HO300 := Aside0.mk (Kd.R_lower (Kd.R_new' ho23 (Kd.R_lt (dR_ HO291))) (below_size (dL1_ HB GE285)))
                       replace HO291 := Aside0.mk (Kd.R_elder' (dR_ HO291) (Kd.R_base ho23) hb)
                       replace BK285 := Aside0.mk (blk_below (g := gb285) (o := .cells #[.int .i64 0, .int .i64 0, .int .i64 0, .slice none 0 0, .slice none 0 0, .slice none 0 0, .slice none 0 0, .int .i64 0, .int .i64 0, .bool false] 25 (0, 0)) (dB_ BK285) hb)
                       replace HB := Aside0.mk (below_step (dL1_ HB GE285) hb)
                       clear hb ho23
                       refine hK.out _ _ trivial (fun hHeld => ?_)
                       clear hK K
                       refine norm_ (a' := ?_) ?_ ?_
                       rotate_left
                       ·show Act.put _ (some 44) _ = _
                        simp only [Act.put, sI_, s0_, sS_, i64_w, i32_w]
                        rfl
                       exact norm_ nm_ (hJ3_9 (v290, v299) _ ⟨(by (with_reducible repeat (first | apply Kd.R_alloc | apply Kd.R_drewN | apply Kd.R_drew)); exact Kd.R_mono HO291.out (fun _ hk => hk.2)), (by (with_reducible repeat (first | apply Kd.R_alloc | apply Kd.R_drewN | apply Kd.R_drew)); exact Kd.R_mono HO300.out (fun _ hk => hk.2)), (dB_ BK285), (dL1_ HB GE285)⟩)
                    ·skip
                     rintro ⟨v296, v299⟩ w23 ⟨h0_, h1_, h2_, h3_⟩
                     have n0_ : Aside0 (Kd.R (Kd.int .i64) 3 w23 w.heap.size (fun k_ => some k_ ≠ (v299 : Value).ownBlock) v296 y295) := ⟨h0_⟩
                     have n1_ : Aside0 (Kd.R (Kd.int .i64) 3 w23 w.heap.size (fun k_ => some k_ ≠ (v296 : Value).ownBlock) v299 y298) := ⟨h1_⟩
                     have n2_ : Aside0 (w23.heap[gb285]? = some (.cells #[.int .i64 0, .int .i64 0, .int .i64 0, .slice none 0 0, .slice none 0 0, .slice none 0 0, .slice none 0 0, .int .i64 0, .int .i64 0, .bool false] 25 (0, 0))) := ⟨h2_⟩
                     have n3_ : Aside0 (Below w.heap.size w w23) := ⟨h3_⟩
                     clear BK285
                     clear HB
                     clear h0_ h1_ h2_ h3_
                     have HO297 := n0_
                     have HO300 := n1_
                     have BK285 := n2_
                     have HB := n3_
                     clear n0_ n1_ n2_ n3_
                     have hHeld := trivial
                     refine norm_ (a' := ?_) ?_ ?_
                     rotate_left
                     ·simp only [putAll, Act.put, sI_, s0_, sS_]
                      rfl
                     refine two_ (i := 3) (j := 5) (Ni := some 38) (Nj := some 40) #[true, true, true, true, true, false, true, true, true, true, false, false, false] #[true, true, true, false, true, true, true, true, true, true, false, false, false] rfl rfl rfl rfl (two_of HT_.out (by kernel_rfl)) (by decide) (by decide) (fun K hK => ?_) (fun K hK => ?_)
                     ·skip
                      refine Kd.R_make_step (Kd.int .i64) _ 3 (by rfl) (N := 38) rfl 23 _ _ rfl (((rd_T39 l0 a1).f2).length : Int) rfl rfl Try.underlying23 (.int .i64 0) 8 info3 rfl (by decide) (by omega) 0 (ok := fun _ => True) (okp := fun _ => True) rfl (fun _ hk => hk) trivial (of_decide_eq_true tW_) (Nat.le_trans (Nat.mul_le_mul_right _ (of_decide_eq_true tW_ : (((rd_T39 l0 a1).f2).length : Int).toNat ≤ 35184372088832)) (by omega)) (Below.refl _ _) (Nat.le_refl _) ?_
                      intro v290 w24 ho25 hb hg_ hnew_
                      clear hg_ hnew_
                      (first | rw [← Ny289.out] at ho25 | (simp only [Int.reduceToNat] at ho25; rw [← Ny289.out] at ho25))
                      have HO291 := Aside0.mk (Kd.R_lower (Kd.R_new' (Kd.R_new' ho25 (Kd.R_lt (dR_ HO297))) (Kd.R_lt (dR_ HO300))) (below_size (dL1_ HB GE285)))
                      replace HO297 := Aside0.mk (Kd.R_elder' (dR_ HO297) (Kd.R_base ho25) hb)
                      replace HO300 := Aside0.mk (Kd.R_elder' (dR_ HO300) (Kd.R_base ho25) hb)
                      replace BK285 := Aside0.mk (blk_below (g := gb285) (o := .cells #[.int .i64 0, .int .i64 0, .int .i64 0, .slice none 0 0, .slice none 0 0, .slice none 0 0, .slice none 0 0, .int .i64 0, .int .i64 0, .bool false] 25 (0, 0)) (dB_ BK285) hb)
                      replace HB := Aside0.mk (below_step (dL1_ HB GE285) hb)
                      clear hb ho25
                      refine hK.out _ _ trivial (fun hHeld => ?_)
                      clear hK K
                      refine norm_ (a' := ?_) ?_ ?_
                      rotate_left
                      ·show Act.put _ (some 38) _ = _
                       simp only [Act.put, sI_, s0_, sS_, i64_w, i32_w]
                       rfl
                      exact norm_ nm_ (hJ3_7_9 (v290, v296, v299) _ ⟨(by (with_reducible repeat (first | apply Kd.R_alloc | apply Kd.R_drewN | apply Kd.R_drew)); exact Kd.R_mono HO291.out (fun _ hk => ⟨hk.1.2, hk.2⟩)), (by (with_reducible repeat (first | apply Kd.R_alloc | apply Kd.R_drewN | apply Kd.R_drew)); exact Kd.R_mono HO297.out (fun _ hk => ⟨hk.2, hk.1⟩)), (by (with_reducible repeat (first | apply Kd.R_alloc | apply Kd.R_drewN | apply Kd.R_drew)); exact Kd.R_mono HO300.out (fun _ hk => ⟨hk.2, hk.1⟩)), (dB_ BK285), (dL1_ HB GE285)⟩)
                     ·skip
                      refine Kd.R_make_step (Kd.int .i64) _ 3 (by rfl) (N := 40) rfl 23 _ _ rfl (((rd_T39 l0 a1).f2).length : Int) rfl rfl Try.underlying23 (.int .i64 0) 8 info3 rfl (by decide) (by omega) 0 (ok := fun _ => True) (okp := fun _ => True) rfl (fun _ hk => hk) trivial (of_decide_eq_true tW_) (Nat.le_trans (Nat.mul_le_mul_right _ (of_decide_eq_true tW_ : (((rd_T39 l0 a1).f2).length : Int).toNat ≤ 35184372088832)) (by omega)) (Below.refl _ _) (Nat.le_refl _) ?_
                      intro v293 w24 ho25 hb hg_ hnew_
                      clear hg_ hnew_
                      (first | rw [← Ny292.out] at ho25 | (simp only [Int.reduceToNat] at ho25; rw [← Ny292.out] at ho25))
                      have HO294 := Aside0.mk (Kd.R_lower (Kd.R_new' (Kd.R_new' ho25 (Kd.R_lt (dR_ HO297))) (Kd.R_lt (dR_ HO300))) (below_size (dL1_ HB GE285)))
                      replace HO297 := Aside0.mk (Kd.R_elder' (dR_ HO297) (Kd.R_base ho25) hb)
                      replace HO300 := Aside0.mk (Kd.R_elder' (dR_ HO300) (Kd.R_base ho25) hb)
                      replace BK285 := Aside0.mk (blk_below (g := gb285) (o := .cells #[.int .i64 0, .int .i64 0, .int .i64 0, .slice none 0 0, .slice none 0 0, .slice none 0 0, .slice none 0 0, .int .i64 0, .int .i64 0, .bool false] 25 (0, 0)) (dB_ BK285) hb)
                      replace HB := Aside0.mk (below_step (dL1_ HB GE285) hb)
                      clear hb ho25
                      refine hK.out _ _ trivial (fun hHeld => ?_)
                      clear hK K
                      refine norm_ (a' := ?_) ?_ ?_
                      rotate_left
                      ·show Act.put _ (some 40) _ = _
                       simp only [Act.put, sI_, s0_, sS_, i64_w, i32_w]
                       rfl
                      exact norm_ nm_ (hJ5_7_9 (v293, v296, v299) _ ⟨(by (with_reducible repeat (first | apply Kd.R_alloc | apply Kd.R_drewN | apply Kd.R_drew)); exact Kd.R_mono HO294.out (fun _ hk => ⟨hk.1.2, hk.2⟩)), (by (with_reducible repeat (first | apply Kd.R_alloc | apply Kd.R_drewN | apply Kd.R_drew)); exact Kd.R_mono HO297.out (fun _ hk => ⟨hk.2, hk.1⟩)), (by (with_reducible repeat (first | apply Kd.R_alloc | apply Kd.R_drewN | apply Kd.R_drew)); exact Kd.R_mono HO300.out (fun _ hk => ⟨hk.2, hk.1⟩)), (dB_ BK285), (dL1_ HB GE285)⟩)
                   ·skip
                    rintro ⟨v293, v299⟩ w23 ⟨h0_, h1_, h2_, h3_⟩
                    have n0_ : Aside0 (Kd.R (Kd.int .i64) 3 w23 w.heap.size (fun k_ => some k_ ≠ (v299 : Value).ownBlock) v293 y292) := ⟨h0_⟩
                    have n1_ : Aside0 (Kd.R (Kd.int .i64) 3 w23 w.heap.size (fun k_ => some k_ ≠ (v293 : Value).ownBlock) v299 y298) := ⟨h1_⟩
                    have n2_ : Aside0 (w23.heap[gb285]? = some (.cells #[.int .i64 0, .int .i64 0, .int .i64 0, .slice none 0 0, .slice none 0 0, .slice none 0 0, .slice none 0 0, .int .i64 0, .int .i64 0, .bool false] 25 (0, 0))) := ⟨h2_⟩
                    have n3_ : Aside0 (Below w.heap.size w w23) := ⟨h3_⟩
                    clear BK285
                    clear HB
                    clear h0_ h1_ h2_ h3_
                    have HO294 := n0_
                    have HO300 := n1_
                    have BK285 := n2_
                    have HB := n3_
                    clear n0_ n1_ n2_ n3_
                    have hHeld := trivial
                    refine norm_ (a' := ?_) ?_ ?_
                    rotate_left
                    ·simp only [putAll, Act.put, sI_, s0_, sS_]
                     rfl
                    refine two_ (i := 3) (j := 7) (Ni := some 38) (Nj := some 42) #[true, true, true, true, true, true, true, false, true, true, false, false, false] #[true, true, true, false, true, true, true, true, true, true, false, false, false] rfl rfl rfl rfl (two_of HT_.out (by kernel_rfl)) (by decide) (by decide) (fun K hK => ?_) (fun K hK => ?_)
                    ·skip
                     refine Kd.R_make_step (Kd.int .i64) _ 3 (by rfl) (N := 38) rfl 23 _ _ rfl (((rd_T39 l0 a1).f2).length : Int) rfl rfl Try.underlying23 (.int .i64 0) 8 info3 rfl (by decide) (by omega) 0 (ok := fun _ => True) (okp := fun _ => True) rfl (fun _ hk => hk) trivial (of_decide_eq_true tW_) (Nat.le_trans (Nat.mul_le_mul_right _ (of_decide_eq_true tW_ : (((rd_T39 l0 a1).f2).length : Int).toNat ≤ 35184372088832)) (by omega)) (Below.refl _ _) (Nat.le_refl _) ?_
                     intro v290 w24 ho25 hb hg_ hnew_
                     clear hg_ hnew_
                     (first | rw [← Ny289.out] at ho25 | (simp only [Int.reduceToNat] at ho25; rw [← Ny289.out] at ho25))
                     have HO291 := Aside0.mk (Kd.R_lower (Kd.R_new' (Kd.R_new' ho25 (Kd.R_lt (dR_ HO294))) (Kd.R_lt (dR_ HO300))) (below_size (dL1_ HB GE285)))
                     replace HO294 := Aside0.mk (Kd.R_elder' (dR_ HO294) (Kd.R_base ho25) hb)
                     replace HO300 := Aside0.mk (Kd.R_elder' (dR_ HO300) (Kd.R_base ho25) hb)
                     replace BK285 := Aside0.mk (blk_below (g := gb285) (o := .cells #[.int .i64 0, .int .i64 0, .int .i64 0, .slice none 0 0, .slice none 0 0, .slice none 0 0, .slice none 0 0, .int .i64 0, .int .i64 0, .bool false] 25 (0, 0)) (dB_ BK285) hb)
                     replace HB := Aside0.mk (below_step (dL1_ HB GE285) hb)
                     clear hb ho25
                     refine hK.out _ _ trivial (fun hHeld => ?_)
                     clear hK K
                     refine norm_ (a' := ?_) ?_ ?_
                     rotate_left
                     ·show Act.put _ (some 38) _ = _
                      simp only [Act.put, sI_, s0_, sS_, i64_w, i32_w]
                      rfl
                     exact norm_ nm_ (hJ3_5_9 (v290, v293, v299) _ ⟨(by (with_reducible repeat (first | apply Kd.R_alloc | apply Kd.R_drewN | apply Kd.R_drew)); exact Kd.R_mono HO291.out (fun _ hk => ⟨hk.1.2, hk.2⟩)), (by (with_reducible repeat (first | apply Kd.R_alloc | apply Kd.R_drewN | apply Kd.R_drew)); exact Kd.R_mono HO294.out (fun _ hk => ⟨hk.2, hk.1⟩)), (by (with_reducible repeat (first | apply Kd.R_alloc | apply Kd.R_drewN | apply Kd.R_drew)); exact Kd.R_mono HO300.out (fun _ hk => ⟨hk.2, hk.1⟩)), (dB_ BK285), (dL1_ HB GE285)⟩)
                    ·skip
                     refine Kd.R_make_step (Kd.int .i64) _ 3 (by rfl) (N := 42) rfl 23 _ _ rfl (((rd_T39 l0 a1).f2).length : Int) rfl rfl Try.underlying23 (.int .i64 0) 8 info3 rfl (by decide) (by omega) 0 (ok := fun _ => True) (okp := fun _ => True) rfl (fun _ hk => hk) trivial (of_decide_eq_true tW_) (Nat.le_trans (Nat.mul_le_mul_right _ (of_decide_eq_true tW_ : (((rd_T39 l0 a1).f2).length : Int).toNat ≤ 35184372088832)) (by omega)) (Below.refl _ _) (Nat.le_refl _) ?_
                     intro v296 w24 ho25 hb hg_ hnew_
                     clear hg_ hnew_
                     (first | rw [← Ny295.out] at ho25 | (simp only [Int.reduceToNat] at ho25; rw [← Ny295.out] at ho25))
                     have HO297 := Aside0.mk (Kd.R_lower (Kd.R_new' (Kd.R_new' ho25 (Kd.R_lt (dR_ HO294))) (Kd.R_lt (dR_ HO300))) (below_size (dL1_ HB GE285)))
                     replace HO294 := Aside0.mk (Kd.R_elder' (dR_ HO294) (Kd.R_base ho25) hb)
                     replace HO300 := Aside0.mk (Kd.R_elder' (dR_ HO300) (Kd.R_base ho25) hb)
                     replace BK285 := Aside0.mk (blk_below (g := gb285) (o := .cells #[.int .i64 0, .int .i64 0, .int .i64 0, .slice none 0 0, .slice none 0 0, .slice none 0 0, .slice none 0 0, .int .i64 0, .int .i64 0, .bool false] 25 (0, 0)) (dB_ BK285) hb)
                     replace HB := Aside0.mk (below_step (dL1_ HB GE285) hb)
                     clear hb ho25
                     refine hK.out _ _ trivial (fun hHeld => ?_)
                     clear hK K
                     refine norm_ (a' := ?_) ?_ ?_
                     rotate_left
                     ·show Act.put _ (some 42) _ = _
                      simp only [Act.put, sI_, s0_, sS_, i64_w, i32_w]
                      rfl
                     exact norm_ nm_ (hJ5_7_9 (v293, v296, v299) _ ⟨(by (with_reducible repeat (first | apply Kd.R_alloc | apply Kd.R_drewN | apply Kd.R_drew)); exact Kd.R_mono HO294.out (fun _ hk => ⟨hk.2, hk.1⟩)), (by (with_reducible repeat (first | apply Kd.R_alloc | apply Kd.R_drewN | apply Kd.R_drew)); exact Kd.R_mono HO297.out (fun _ hk => ⟨hk.1.2, hk.2⟩)), (dR_ HO300), (dB_ BK285), (dL1_ HB GE285)⟩)
                  ·skip
                   rintro ⟨v293, v296⟩ w23 ⟨h0_, h1_, h2_, h3_⟩
                   have n0_ : Aside0 (Kd.R (Kd.int .i64) 3 w23 w.heap.size (fun k_ => some k_ ≠ (v296 : Value).ownBlock) v293 y292) := ⟨h0_⟩
                   have n1_ : Aside0 (Kd.R (Kd.int .i64) 3 w23 w.heap.size (fun k_ => some k_ ≠ (v293 : Value).ownBlock) v296 y295) := ⟨h1_⟩
                   have n2_ : Aside0 (w23.heap[gb285]? = some (.cells #[.int .i64 0, .int .i64 0, .int .i64 0, .slice none 0 0, .slice none 0 0, .slice none 0 0, .slice none 0 0, .int .i64 0, .int .i64 0, .bool false] 25 (0, 0))) := ⟨h2_⟩
                   have n3_ : Aside0 (Below w.heap.size w w23) := ⟨h3_⟩
                   clear BK285
                   clear HB
                   clear h0_ h1_ h2_ h3_
                   have HO294 := n0_
                   have HO297 := n1_
                   have BK285 := n2_
                   have HB := n3_
                   clear n0_ n1_ n2_ n3_
                   have hHeld := trivial
                   refine norm_ (a' := ?_) ?_ ?_
                   rotate_left
                   ·simp only [putAll, Act.put, sI_, s0_, sS_]
                    rfl
                   refine two_ (i := 3) (j := 9) (Ni := some 38) (Nj := some 44) #[true, true, true, true, true, true, true, true, true, false, false, false, false] #[true, true, true, false, true, true, true, true, true, true, false, false, false] rfl rfl rfl rfl (two_of HT_.out (by kernel_rfl)) (by decide) (by decide) (fun K hK => ?_) (fun K hK => ?_)
                   ·skip
                    refine Kd.R_make_step (Kd.int .i64) _ 3 (by rfl) (N := 38) rfl 23 _ _ rfl (((rd_T39 l0 a1).f2).length : Int) rfl rfl Try.underlying23 (.int .i64 0) 8 info3 rfl (by decide) (by omega) 0 (ok := fun _ => True) (okp := fun _ => True) rfl (fun _ hk => hk) trivial (of_decide_eq_true tW_) (Nat.le_trans (Nat.mul_le_mul_right _ (of_decide_eq_true tW_ : (((rd_T39 l0 a1).f2).length : Int).toNat ≤ 35184372088832)) (by omega)) (Below.refl _ _) (Nat.le_refl _) ?_
                    intro v290 w24 ho25 hb hg_ hnew_
                    clear hg_ hnew_
                    (first | rw [← Ny289.out] at ho25 | (simp only [Int.reduceToNat] at ho25; rw [← Ny289.out] at ho25))
                    have HO291 := Aside0.mk (Kd.R_lower (Kd.R_new' (Kd.R_new' ho25 (Kd.R_lt (dR_ HO294))) (Kd.R_lt (dR_ HO297))) (below_size (dL1_ HB GE285)))
                    replace HO294 := Aside0.mk (Kd.R_elder' (dR_ HO294) (Kd.R_base ho25) hb)
                    replace HO297 := Aside0.mk (Kd.R_elder' (dR_ HO297) (Kd.R_base ho25) hb)
                    replace BK285 := Aside0.mk (blk_below (g := gb285) (o := .cells #[.int .i64 0, .int .i64 0, .int .i64 0, .slice none 0 0, .slice none 0 0, .slice none 0 0, .slice none 0 0, .int .i64 0, .int .i64 0, .bool false] 25 (0, 0)) (dB_ BK285) hb)
                    replace HB := Aside0.mk (below_step (dL1_ HB GE285) hb)
                    clear hb ho25
                    refine hK.out _ _ trivial (fun hHeld => ?_)
                    clear hK K
                    refine norm_ (a' := ?_) ?_ ?_
                    rotate_left
                    ·show Act.put _ (some 38) _ = _
                     simp only [Act.put, sI_, s0_, sS_, i64_w, i32_w]
                     rfl
                    exact norm_ nm_ (hJ3_5_7 (v290, v293, v296) _ ⟨(by (with_reducible repeat (first | apply Kd.R_alloc | apply Kd.R_drewN | apply Kd.R_drew)); exact Kd.R_mono HO291.out (fun _ hk => ⟨hk.1.2, hk.2⟩)), (by (with_reducible repeat (first | apply Kd.R_alloc | apply Kd.R_drewN | apply Kd.R_drew)); exact Kd.R_mono HO294.out (fun _ hk => ⟨hk.2, hk.1⟩)), (by (with_reducible repeat (first | apply Kd.R_alloc | apply Kd.R_drewN | apply Kd.R_drew)); exact Kd.R_mono HO297.out (fun _ hk => ⟨hk.2, hk.1⟩)), (dB_ BK285), (dL1_ HB GE285)⟩)
                   ·skip
                    refine Kd.R_make_step (Kd.int .i64) _ 3 (by rfl) (N := 44) rfl 23 _ _ rfl (((rd_T39 l0 a1).f2).length : Int) rfl rfl Try.underlying23 (.int .i64 0) 8 info3 rfl (by decide) (by omega) 0 (ok := fun _ => True) (okp := fun _ => True) rfl (fun _ hk => hk) trivial (of_decide_eq_true tW_) (Nat.le_trans (Nat.mul_le_mul_right _ (of_decide_eq_true tW_ : (((rd_T39 l0 a1).f2).length : Int).toNat ≤ 35184372088832)) (by omega)) (Below.refl _ _) (Nat.le_refl _) ?_
                    intro v299 w24 ho25 hb hg_ hnew_
                    clear hg_ hnew_
                    (first | rw [← Ny298.out] at ho25 | (simp only [Int.reduceToNat] at ho25; rw [← Ny298.out] at ho25))
                    have HO300 := Aside0.mk (Kd.R_lower (Kd.R_new' (Kd.R_new' ho25 (Kd.R_lt (dR_ HO294))) (Kd.R_lt (dR_ HO297))) (below_size (dL1_ HB GE285)))
                    replace HO294 := Aside0.mk (Kd.R_elder' (dR_ HO294) (Kd.R_base ho25) hb)
                    replace HO297 := Aside0.mk (Kd.R_elder' (dR_ HO297) (Kd.R_base ho25) hb)
                    replace BK285 := Aside0.mk (blk_below (g := gb285) (o := .cells #[.int .i64 0, .int .i64 0, .int .i64 0, .slice none 0 0, .slice none 0 0, .slice none 0 0, .slice none 0 0, .int .i64 0, .int .i64 0, .bool false] 25 (0, 0)) (dB_ BK285) hb)
                    replace HB := Aside0.mk (below_step (dL1_ HB GE285) hb)
                    clear hb ho25
                    refine hK.out _ _ trivial (fun hHeld => ?_)
                    clear hK K
                    refine norm_ (a' := ?_) ?_ ?_
                    rotate_left
                    ·show Act.put _ (some 44) _ = _
                     simp only [Act.put, sI_, s0_, sS_, i64_w, i32_w]
                     rfl
                    exact norm_ nm_ (hJ5_7_9 (v293, v296, v299) _ ⟨(dR_ HO294), (dR_ HO297), (by (with_reducible repeat (first | apply Kd.R_alloc | apply Kd.R_drewN | apply Kd.R_drew)); exact Kd.R_mono HO300.out (fun _ hk => ⟨hk.1.2, hk.2⟩)), (dB_ BK285), (dL1_ HB GE285)⟩)
                 ·skip
                  rintro ⟨v290, v299⟩ w23 ⟨h0_, h1_, h2_, h3_⟩
                  have n0_ : Aside0 (Kd.R (Kd.int .i64) 3 w23 w.heap.size (fun k_ => some k_ ≠ (v299 : Value).ownBlock) v290 y289) := ⟨h0_⟩
                  have n1_ : Aside0 (Kd.R (Kd.int .i64) 3 w23 w.heap.size (fun k_ => some k_ ≠ (v290 : Value).ownBlock) v299 y298) := ⟨h1_⟩
                  have n2_ : Aside0 (w23.heap[gb285]? = some (.cells #[.int .i64 0, .int .i64 0, .int .i64 0, .slice none 0 0, .slice none 0 0, .slice none 0 0, .slice none 0 0, .int .i64 0, .int .i64 0, .bool false] 25 (0, 0))) := ⟨h2_⟩
                  have n3_ : Aside0 (Below w.heap.size w w23) := ⟨h3_⟩
                  clear BK285
                  clear HB
                  clear h0_ h1_ h2_ h3_
                  have HO291 := n0_
                  have HO300 := n1_
                  have BK285 := n2_
                  have HB := n3_
                  clear n0_ n1_ n2_ n3_
                  have hHeld := trivial
                  refine norm_ (a' := ?_) ?_ ?_
                  rotate_left
                  ·simp only [putAll, Act.put, sI_, s0_, sS_]
                   rfl
                  refine two_ (i := 5) (j := 7) (Ni := some 40) (Nj := some 42) #[true, true, true, true, true, true, true, false, true, true, false, false, false] #[true, true, true, true, true, false, true, true, true, true, false, false, false] rfl rfl rfl rfl (two_of HT_.out (by kernel_rfl)) (by decide) (by decide) (fun K hK => ?_) (fun K hK => ?_)
                  ·skip
                   refine Kd.R_make_step (Kd.int .i64) _ 3 (by rfl) (N := 40) rfl 23 _ _ rfl (((rd_T39 l0 a1).f2).length : Int) rfl rfl Try.underlying23 (.int .i64 0) 8 info3 rfl (by decide) (by omega) 0 (ok := fun _ => True) (okp := fun _ => True) rfl (fun _ hk => hk) trivial (of_decide_eq_true tW_) (Nat.le_trans (Nat.mul_le_mul_right _ (of_decide_eq_true tW_ : (((rd_T39 l0 a1).f2).length : Int).toNat ≤ 35184372088832)) (by omega)) (Below.refl _ _) (Nat.le_refl _) ?_
                   intro v293 w24 ho25 hb hg_ hnew_
                   clear hg_ hnew_
                   (first | rw [← Ny292.out] at ho25 | (simp only [Int.reduceToNat] at ho25; rw [← Ny292.out] at ho25))
                   have HO294 := Aside0.mk (Kd.R_lower (Kd.R_new' (Kd.R_new' ho25 (Kd.R_lt (dR_ HO291))) (Kd.R_lt (dR_ HO300))) (below_size (dL1_ HB GE285)))
                   replace HO291 := Aside0.mk (Kd.R_elder' (dR_ HO291) (Kd.R_base ho25) hb)
                   replace HO300 := Aside0.mk (Kd.R_elder' (dR_ HO300) (Kd.R_base ho25) hb)
                   replace BK285 := Aside0.mk (blk_below (g := gb285) (o := .cells #[.int .i64 0, .int .i64 0, .int .i64 0, .slice none 0 0, .slice none 0 0, .slice none 0 0, .slice none 0 0, .int .i64 0, .int .i64 0, .bool false] 25 (0, 0)) (dB_ BK285) hb)
                   replace HB := Aside0.mk (below_step (dL1_ HB GE285) hb)
                   clear hb ho25
                   refine hK.out _ _ trivial (fun hHeld => ?_)
                   clear hK K
                   refine norm_ (a' := ?_) ?_ ?_
                   rotate_left
                   ·show Act.put _ (some 40) _ = _
                    simp only [Act.put, sI_, s0_, sS_, i64_w, i32_w]
                    rfl
                   exact norm_ nm_ (hJ3_5_9 (v290, v293, v299) _ ⟨(by (with_reducible repeat (first | apply Kd.R_alloc | apply Kd.R_drewN | apply Kd.R_drew)); exact Kd.R_mono HO291.out (fun _ hk => ⟨hk.2, hk.1⟩)), (by (with_reducible repeat (first | apply Kd.R_alloc | apply Kd.R_drewN | apply Kd.R_drew)); exact Kd.R_mono HO294.out (fun _ hk => ⟨hk.1.2, hk.2⟩)), (dR_ HO300), (dB_ BK285), (dL1_ HB GE285)⟩)
                  ·skip
                   refine Kd.R_make_step (Kd.int .i64) _ 3 (by rfl) (N := 42) rfl 23 _ _ rfl (((rd_T39 l0 a1).f2).length : Int) rfl rfl Try.underlying23 (.int .i64 0) 8 info3 rfl (by decide) (by omega) 0 (ok := fun _ => True) (okp := fun _ => True) rfl (fun _ hk => hk) trivial (of_decide_eq_true tW_) (Nat.le_trans (Nat.mul_le_mul_right _ (of_decide_eq_true tW_ : (((rd_T39 l0 a1).f2).length : Int).toNat ≤ 35184372088832)) (by omega)) (Below.refl _ _) (Nat.le_refl _) ?_
                   intro v296 w24 ho25 hb hg_ hnew_
                   clear hg_ hnew_
                   (first | rw [← Ny295.out] at ho25 | (simp only [Int.reduceToNat] at ho25; rw [← Ny295.out] at ho25))
                   have HO297 := Aside0.mk (Kd.R_lower (Kd.R_new' (Kd.R_new' ho25 (Kd.R_lt (dR_ HO291))) (Kd.R_lt (dR_ HO300))) (below_size (dL1_ HB GE285)))
                   replace HO291 := Aside0.mk (Kd.R_elder' (dR_ HO291) (Kd.R_base ho25) hb)
                   replace HO300 := Aside0.mk (Kd.R_elder' (dR_ HO300) (Kd.R_base ho25) hb)
                   replace BK285 := Aside0.mk (blk_below (g := gb285) (o := .cells #[.int .i64 0, .int .i64 0, .int .i64 0, .slice none 0 0, .slice none 0 0, .slice none 0 0, .slice none 0 0, .int .i64 0, .int .i64 0, .bool false] 25 (0, 0)) (dB_ BK285) hb)
                   replace HB := Aside0.mk (below_step (dL1_ HB GE285) hb)
                   clear hb ho25
                   refine hK.out _ _ trivial (fun hHeld => ?_)
                   clear hK K
                   refine norm_ (a' := ?_) ?_ ?_
                   rotate_left
                   ·show Act.put _ (some 42) _ = _
                    simp only [Act.put, sI_, s0_, sS_, i64_w, i32_w]
                    rfl
                   exact norm_ nm_ (hJ3_7_9 (v290, v296, v299) _ ⟨(by (with_reducible repeat (first | apply Kd.R_alloc | apply Kd.R_drewN | apply Kd.R_drew)); exact Kd.R_mono HO291.out (fun _ hk => ⟨hk.2, hk.1⟩)), (by (with_reducible repeat (first | apply Kd.R_alloc | apply Kd.R_drewN | apply Kd.R_drew)); exact Kd.R_mono HO297.out (fun _ hk => ⟨hk.1.2, hk.2⟩)), (dR_ HO300), (dB_ BK285), (dL1_ HB GE285)⟩)
                ·skip
                 rintro ⟨v290, v296⟩ w23 ⟨h0_, h1_, h2_, h3_⟩
                 have n0_ : Aside0 (Kd.R (Kd.int .i64) 3 w23 w.heap.size (fun k_ => some k_ ≠ (v296 : Value).ownBlock) v290 y289) := ⟨h0_⟩
                 have n1_ : Aside0 (Kd.R (Kd.int .i64) 3 w23 w.heap.size (fun k_ => some k_ ≠ (v290 : Value).ownBlock) v296 y295) := ⟨h1_⟩
                 have n2_ : Aside0 (w23.heap[gb285]? = some (.cells #[.int .i64 0, .int .i64 0, .int .i64 0, .slice none 0 0, .slice none 0 0, .slice none 0 0, .slice none 0 0, .int .i64 0, .int .i64 0, .bool false] 25 (0, 0))) := ⟨h2_⟩
                 have n3_ : Aside0 (Below w.heap.size w w23) := ⟨h3_⟩
                 clear BK285
                 clear HB
                 clear h0_ h1_ h2_ h3_
                 have HO291 := n0_
                 have HO297 := n1_
                 have BK285 := n2_
                 have HB := n3_
                 clear n0_ n1_ n2_ n3_
                 have hHeld := trivial
                 refine norm_ (a' := ?_) ?_ ?_
                 rotate_left
                 ·simp only [putAll, Act.put, sI_, s0_, sS_]
                  rfl
                 refine two_ (i := 5) (j := 9) (Ni := some 40) (Nj := some 44) #[true, true, true, true, true, true, true, true, true, false, false, false, false] #[true, true, true, true, true, false, true, true, true, true, false, false, false] rfl rfl rfl rfl (two_of HT_.out (by kernel_rfl)) (by decide) (by decide) (fun K hK => ?_) (fun K hK => ?_)
                 ·skip
                  refine Kd.R_make_step (Kd.int .i64) _ 3 (by rfl) (N := 40) rfl 23 _ _ rfl (((rd_T39 l0 a1).f2).length : Int) rfl rfl Try.underlying23 (.int .i64 0) 8 info3 rfl (by decide) (by omega) 0 (ok := fun _ => True) (okp := fun _ => True) rfl (fun _ hk => hk) trivial (of_decide_eq_true tW_) (Nat.le_trans (Nat.mul_le_mul_right _ (of_decide_eq_true tW_ : (((rd_T39 l0 a1).f2).length : Int).toNat ≤ 35184372088832)) (by omega)) (Below.refl _ _) (Nat.le_refl _) ?_
                  intro v293 w24 ho25 hb hg_ hnew_
                  clear hg_ hnew_
                  (first | rw [← Ny292.out] at ho25 | (simp only [Int.reduceToNat] at ho25; rw [← Ny292.out] at ho25))
                  have HO294 := Aside0.mk (Kd.R_lower (Kd.R_new' (Kd.R_new' ho25 (Kd.R_lt (dR_ HO291))) (Kd.R_lt (dR_ HO297))) (below_size (dL1_ HB GE285)))
                  replace HO291 := Aside0.mk (Kd.R_elder' (dR_ HO291) (Kd.R_base ho25) hb)
                  replace HO297 := Aside0.mk (Kd.R_elder' (dR_ HO297) (Kd.R_base ho25) hb)
                  replace BK285 := Aside0.mk (blk_below (g := gb285) (o := .cells #[.int .i64 0, .int .i64 0, .int .i64 0, .slice none 0 0, .slice none 0 0, .slice none 0 0, .slice none 0 0, .int .i64 0, .int .i64 0, .bool false] 25 (0, 0)) (dB_ BK285) hb)
                  replace HB := Aside0.mk (below_step (dL1_ HB GE285) hb)
                  clear hb ho25
                  refine hK.out _ _ trivial (fun hHeld => ?_)
                  clear hK K
                  refine norm_ (a' := ?_) ?_ ?_
                  rotate_left
                  ·show Act.put _ (some 40) _ = _
                   simp only [Act.put, sI_, s0_, sS_, i64_w, i32_w]
                   rfl
                  exact norm_ nm_ (hJ3_5_7 (v290, v293, v296) _ ⟨(by (with_reducible repeat (first | apply Kd.R_alloc | apply Kd.R_drewN | apply Kd.R_drew)); exact Kd.R_mono HO291.out (fun _ hk => ⟨hk.2, hk.1⟩)), (by (with_reducible repeat (first | apply Kd.R_alloc | apply Kd.R_drewN | apply Kd.R_drew)); exact Kd.R_mono HO294.out (fun _ hk => ⟨hk.1.2, hk.2⟩)), (dR_ HO297), (dB_ BK285), (dL1_ HB GE285)⟩)
                 ·skip
                  refine Kd.R_make_step (Kd.int .i64) _ 3 (by rfl) (N := 44) rfl 23 _ _ rfl (((rd_T39 l0 a1).f2).length : Int) rfl rfl Try.underlying23 (.int .i64 0) 8 info3 rfl (by decide) (by omega) 0 (ok := fun _ => True) (okp := fun _ => True) rfl (fun _ hk => hk) trivial (of_decide_eq_true tW_) (Nat.le_trans (Nat.mul_le_mul_right _ (of_decide_eq_true tW_ : (((rd_T39 l0 a1).f2).length : Int).toNat ≤ 35184372088832)) (by omega)) (Below.refl _ _) (Nat.le_refl _) ?_
                  intro v299 w24 ho25 hb hg_ hnew_
                  clear hg_ hnew_
                  (first | rw [← Ny298.out] at ho25 | (simp only [Int.reduceToNat] at ho25; rw [← Ny298.out] at ho25))
                  have HO300 := Aside0.mk (Kd.R_lower (Kd.R_new' (Kd.R_new' ho25 (Kd.R_lt (dR_ HO291))) (Kd.R_lt (dR_ HO297))) (below_size (dL1_ HB GE285)))
                  replace HO291 := Aside0.mk (Kd.R_elder' (dR_ HO291) (Kd.R_base ho25) hb)
                  replace HO297 := Aside0.mk (Kd.R_elder' (dR_ HO297) (Kd.R_base ho25) hb)
                  replace BK285 := Aside0.mk (blk_below (g := gb285) (o := .cells #[.int .i64 0, .int .i64 0, .int .i64 0, .slice none 0 0, .slice none 0 0, .slice none 0 0, .slice none 0 0, .int .i64 0, .int .i64 0, .bool false] 25 (0, 0)) (dB_ BK285) hb)
                  replace HB := Aside0.mk (below_step (dL1_ HB GE285) hb)
                  clear hb ho25
                  refine hK.out _ _ trivial (fun hHeld => ?_)
                  clear hK K
                  refine norm_ (a' := ?_) ?_ ?_
                  rotate_left
                  ·show Act.put _ (some 44) _ = _
                   simp only [Act.put, sI_, s0_, sS_, i64_w, i32_w]
                   rfl
                  exact norm_ nm_ (hJ3_7_9 (v290, v296, v299) _ ⟨(dR_ HO291), (dR_ HO297), (by (with_reducible repeat (first | apply Kd.R_alloc | apply Kd.R_drewN | apply Kd.R_drew)); exact Kd.R_mono HO300.out (fun _ hk => ⟨hk.1.2, hk.2⟩)), (dB_ BK285), (dL1_ HB GE285)⟩)
               ·skip
                rintro ⟨v290, v293⟩ w23 ⟨h0_, h1_, h2_, h3_⟩
                have n0_ : Aside0 (Kd.R (Kd.int .i64) 3 w23 w.heap.size (fun k_ => some k_ ≠ (v293 : Value).ownBlock) v290 y289) := ⟨h0_⟩
                have n1_ : Aside0 (Kd.R (Kd.int .i64) 3 w23 w.heap.size (fun k_ => some k_ ≠ (v290 : Value).ownBlock) v293 y292) := ⟨h1_⟩
                have n2_ : Aside0 (w23.heap[gb285]? = some (.cells #[.int .i64 0, .int .i64 0, .int .i64 0, .slice none 0 0, .slice none 0 0, .slice none 0 0, .slice none 0 0, .int .i64 0, .int .i64 0, .bool false] 25 (0, 0))) := ⟨h2_⟩
                have n3_ : Aside0 (Below w.heap.size w w23) := ⟨h3_⟩
                clear BK285
                clear HB
                clear h0_ h1_ h2_ h3_
                have HO291 := n0_
                have HO294 := n1_
                have BK285 := n2_
                have HB := n3_
                clear n0_ n1_ n2_ n3_
                have hHeld := trivial
                refine norm_ (a' := ?_) ?_ ?_
                rotate_left
                ·simp only [putAll, Act.put, sI_, s0_, sS_]
                 rfl
                refine two_ (i := 7) (j := 9) (Ni := some 42) (Nj := some 44) #[true, true, true, true, true, true, true, true, true, false, false, false, false] #[true, true, true, true, true, true, true, false, true, true, false, false, false] rfl rfl rfl rfl (two_of HT_.out (by kernel_rfl)) (by decide) (by decide) (fun K hK => ?_) (fun K hK => ?_)
                ·skip
                 refine Kd.R_make_step (Kd.int .i64) _ 3 (by rfl) (N := 42) rfl 23 _ _ rfl (((rd_T39 l0 a1).f2).length : Int) rfl rfl Try.underlying23 (.int .i64 0) 8 info3 rfl (by decide) (by omega) 0 (ok := fun _ => True) (okp := fun _ => True) rfl (fun _ hk => hk) trivial (of_decide_eq_true tW_) (Nat.le_trans (Nat.mul_le_mul_right _ (of_decide_eq_true tW_ : (((rd_T39 l0 a1).f2).length : Int).toNat ≤ 35184372088832)) (by omega)) (Below.refl _ _) (Nat.le_refl _) ?_
                 intro v296 w24 ho25 hb hg_ hnew_
                 clear hg_ hnew_
                 (first | rw [← Ny295.out] at ho25 | (simp only [Int.reduceToNat] at ho25; rw [← Ny295.out] at ho25))
                 have HO297 := Aside0.mk (Kd.R_lower (Kd.R_new' (Kd.R_new' ho25 (Kd.R_lt (dR_ HO291))) (Kd.R_lt (dR_ HO294))) (below_size (dL1_ HB GE285)))
                 replace HO291 := Aside0.mk (Kd.R_elder' (dR_ HO291) (Kd.R_base ho25) hb)
                 replace HO294 := Aside0.mk (Kd.R_elder' (dR_ HO294) (Kd.R_base ho25) hb)
                 replace BK285 := Aside0.mk (blk_below (g := gb285) (o := .cells #[.int .i64 0, .int .i64 0, .int .i64 0, .slice none 0 0, .slice none 0 0, .slice none 0 0, .slice none 0 0, .int .i64 0, .int .i64 0, .bool false] 25 (0, 0)) (dB_ BK285) hb)
                 replace HB := Aside0.mk (below_step (dL1_ HB GE285) hb)
                 clear hb ho25
                 refine hK.out _ _ trivial (fun hHeld => ?_)
                 clear hK K
                 refine norm_ (a' := ?_) ?_ ?_
                 rotate_left
                 ·show Act.put _ (some 42) _ = _
                  simp only [Act.put, sI_, s0_, sS_, i64_w, i32_w]
                  rfl
                 exact norm_ nm_ (hJ3_5_7 (v290, v293, v296) _ ⟨(dR_ HO291), (dR_ HO294), (by (with_reducible repeat (first | apply Kd.R_alloc | apply Kd.R_drewN | apply Kd.R_drew)); exact Kd.R_mono HO297.out (fun _ hk => ⟨hk.1.2, hk.2⟩)), (dB_ BK285), (dL1_ HB GE285)⟩)
                ·skip
                 refine Kd.R_make_step (Kd.int .i64) _ 3 (by rfl) (N := 44) rfl 23 _ _ rfl (((rd_T39 l0 a1).f2).length : Int) rfl rfl Try.underlying23 (.int .i64 0) 8 info3 rfl (by decide) (by omega) 0 (ok := fun _ => True) (okp := fun _ => True) rfl (fun _ hk => hk) trivial (of_decide_eq_true tW_) (Nat.le_trans (Nat.mul_le_mul_right _ (of_decide_eq_true tW_ : (((rd_T39 l0 a1).f2).length : Int).toNat ≤ 35184372088832)) (by omega)) (Below.refl _ _) (Nat.le_refl _) ?_
                 intro v299 w24 ho25 hb hg_ hnew_
                 clear hg_ hnew_
                 (first | rw [← Ny298.out] at ho25 | (simp only [Int.reduceToNat] at ho25; rw [← Ny298.out] at ho25))
                 have HO300 := Aside0.mk (Kd.R_lower (Kd.R_new' (Kd.R_new' ho25 (Kd.R_lt (dR_ HO291))) (Kd.R_lt (dR_ HO294))) (below_size (dL1_ HB GE285)))
                 replace HO291 := Aside0.mk (Kd.R_elder' (dR_ HO291) (Kd.R_base ho25) hb)
                 replace HO294 := Aside0.mk (Kd.R_elder' (dR_ HO294) (Kd.R_base ho25) hb)
                 replace BK285 := Aside0.mk (blk_below (g := gb285) (o := .cells #[.int .i64 0, .int .i64 0, .int .i64 0, .slice none 0 0, .slice none 0 0, .slice none 0 0, .slice none 0 0, .int .i64 0, .int .i64 0, .bool false] 25 (0, 0)) (dB_ BK285) hb)
                 replace HB := Aside0.mk (below_step (dL1_ HB GE285) hb)
                 clear hb ho25
                 refine hK.out _ _ trivial (fun hHeld => ?_)
                 clear hK K
                 refine norm_ (a' := ?_) ?_ ?_
                 rotate_left
                 ·show Act.put _ (some 44) _ = _
                  simp only [Act.put, sI_, s0_, sS_, i64_w, i32_w]
                  rfl
                 exact norm_ nm_ (hJ3_5_9 (v290, v293, v299) _ ⟨(dR_ HO291), (dR_ HO294), (by (with_reducible repeat (first | apply Kd.R_alloc | apply Kd.R_drewN | apply Kd.R_drew)); exact Kd.R_mono HO300.out (fun _ hk => ⟨hk.1.2, hk.2⟩)), (dB_ BK285), (dL1_ HB GE285)⟩)
              ·skip
               rintro ⟨v293, v296, v299⟩ w25 ⟨h0_, h1_, h2_, h3_, h4_⟩
               have n0_ : Aside0 (Kd.R (Kd.int .i64) 3 w25 w.heap.size (fun k_ => some k_ ≠ (v296 : Value).ownBlock ∧ some k_ ≠ (v299 : Value).ownBlock) v293 y292) := ⟨h0_⟩
               have n1_ : Aside0 (Kd.R (Kd.int .i64) 3 w25 w.heap.size (fun k_ => some k_ ≠ (v293 : Value).ownBlock ∧ some k_ ≠ (v299 : Value).ownBlock) v296 y295) := ⟨h1_⟩
               have n2_ : Aside0 (Kd.R (Kd.int .i64) 3 w25 w.heap.size (fun k_ => some k_ ≠ (v293 : Value).ownBlock ∧ some k_ ≠ (v296 : Value).ownBlock) v299 y298) := ⟨h2_⟩
               have n3_ : Aside0 (w25.heap[gb285]? = some (.cells #[.int .i64 0, .int .i64 0, .int .i64 0, .slice none 0 0, .slice none 0 0, .slice none 0 0, .slice none 0 0, .int .i64 0, .int .i64 0, .bool false] 25 (0, 0))) := ⟨h3_⟩
               have n4_ : Aside0 (Below w.heap.size w w25) := ⟨h4_⟩
               clear BK285
               clear HB
               clear h0_ h1_ h2_ h3_ h4_
               have HO294 := n0_
               have HO297 := n1_
               have HO300 := n2_
               have BK285 := n3_
               have HB := n4_
               clear n0_ n1_ n2_ n3_ n4_
               have hHeld := trivial
               refine norm_ (a' := ?_) ?_ ?_
               rotate_left
               ·simp only [putAll, Act.put, sI_, s0_, sS_]
                rfl
               refine one_ (i := 3) (N := some 38) #[true, true, true, true, true, true, true, true, true, true, false, false, false] rfl rfl (one_of HT_.out (by kernel_rfl)) (by decide) (fun K hK => ?_)
               refine Kd.R_make_step (Kd.int .i64) _ 3 (by rfl) (N := 38) rfl 23 _ _ rfl (((rd_T39 l0 a1).f2).length : Int) rfl rfl Try.underlying23 (.int .i64 0) 8 info3 rfl (by decide) (by omega) 0 (ok := fun _ => True) (okp := fun _ => True) rfl (fun _ hk => hk) trivial (of_decide_eq_true tW_) (Nat.le_trans (Nat.mul_le_mul_right _ (of_decide_eq_true tW_ : (((rd_T39 l0 a1).f2).length : Int).toNat ≤ 35184372088832)) (by omega)) (Below.refl _ _) (Nat.le_refl _) ?_
               intro v290 w26 ho27 hb hg_ hnew_
               clear hg_ hnew_
               (first | rw [← Ny289.out] at ho27 | (simp only [Int.reduceToNat] at ho27; rw [← Ny289.out] at ho27))
               have HO291 := Aside0.mk (Kd.R_lower (Kd.R_new' (Kd.R_new' (Kd.R_new' ho27 (Kd.R_lt (dR_ HO294))) (Kd.R_lt (dR_ HO297))) (Kd.R_lt (dR_ HO300))) (below_size (dL1_ HB GE285)))
               replace HO294 := Aside0.mk (Kd.R_elder' (dR_ HO294) (Kd.R_base ho27) hb)
               replace HO297 := Aside0.mk (Kd.R_elder' (dR_ HO297) (Kd.R_base ho27) hb)
               replace HO300 := Aside0.mk (Kd.R_elder' (dR_ HO300) (Kd.R_base ho27) hb)
               replace BK285 := Aside0.mk (blk_below (g := gb285) (o := .cells #[.int .i64 0, .int .i64 0, .int .i64 0, .slice none 0 0, .slice none 0 0, .slice none 0 0, .slice none 0 0, .int .i64 0, .int .i64 0, .bool false] 25 (0, 0)) (dB_ BK285) hb)
               replace HB := Aside0.mk (below_step (dL1_ HB GE285) hb)
               clear hb ho27
               obtain ⟨Ao28, co28, eo28⟩ := Kd.R_slice HO300.out
               (first | subst eo28 | (injection eo28 with f1_ f2_ f3_; have f4_ := f1_.symm; have f5_ := f3_.symm; clear f1_ f2_ f3_; subst f4_; subst f5_))
               obtain ⟨Ao29, co29, eo29⟩ := Kd.R_slice HO297.out
               (first | subst eo29 | (injection eo29 with f1_ f2_ f3_; have f4_ := f1_.symm; have f5_ := f3_.symm; clear f1_ f2_ f3_; subst f4_; subst f5_))
               obtain ⟨Ao30, co30, eo30⟩ := Kd.R_slice HO294.out
               (first | subst eo30 | (injection eo30 with f1_ f2_ f3_; have f4_ := f1_.symm; have f5_ := f3_.symm; clear f1_ f2_ f3_; subst f4_; subst f5_))
               obtain ⟨Ao31, co31, eo31⟩ := Kd.R_slice HO291.out
               (first | subst eo31 | (injection eo31 with f1_ f2_ f3_; have f4_ := f1_.symm; have f5_ := f3_.symm; clear f1_ f2_ f3_; subst f4_; subst f5_))
               refine hK.out _ _ trivial (fun hHeld => ?_)
               clear hK K
               refine norm_ (a' := ?_) ?_ ?_
               rotate_left
               ·show Act.put _ (some 38) _ = _
                simp only [Act.put, sI_, s0_, sS_, i64_w, i32_w]
                rfl
               exact norm_ nm_ (hJ3_5_7_9 (.slice Ao31 y289.length co31, .slice Ao30 y292.length co30, .slice Ao29 y295.length co29, .slice Ao28 y298.length co28) _ ⟨(by (with_reducible repeat (first | apply Kd.R_alloc | apply Kd.R_drewN | apply Kd.R_drew)); exact Kd.R_mono HO291.out (fun _ hk => ⟨hk.1.1.2, ⟨hk.1.2, hk.2⟩⟩)), (by (with_reducible repeat (first | apply Kd.R_alloc | apply Kd.R_drewN | apply Kd.R_drew)); exact Kd.R_mono HO294.out (fun _ hk => ⟨hk.2, ⟨hk.1.1, hk.1.2⟩⟩)), (by (with_reducible repeat (first | apply Kd.R_alloc | apply Kd.R_drewN | apply Kd.R_drew)); exact Kd.R_mono HO297.out (fun _ hk => ⟨hk.2, ⟨hk.1.1, hk.1.2⟩⟩)), (by (with_reducible repeat (first | apply Kd.R_alloc | apply Kd.R_drewN | apply Kd.R_drew)); exact Kd.R_mono HO300.out (fun _ hk => ⟨hk.2, ⟨hk.1.1, hk.1.2⟩⟩)), (dB_ BK285), (dL1_ HB GE285)⟩)
             ·skip
              rintro ⟨v290, v296, v299⟩ w25 ⟨h0_, h1_, h2_, h3_, h4_⟩
              have n0_ : Aside0 (Kd.R (Kd.int .i64) 3 w25 w.heap.size (fun k_ => some k_ ≠ (v296 : Value).ownBlock ∧ some k_ ≠ (v299 : Value).ownBlock) v290 y289) := ⟨h0_⟩
              have n1_ : Aside0 (Kd.R (Kd.int .i64) 3 w25 w.heap.size (fun k_ => some k_ ≠ (v290 : Value).ownBlock ∧ some k_ ≠ (v299 : Value).ownBlock) v296 y295) := ⟨h1_⟩
              have n2_ : Aside0 (Kd.R (Kd.int .i64) 3 w25 w.heap.size (fun k_ => some k_ ≠ (v290 : Value).ownBlock ∧ some k_ ≠ (v296 : Value).ownBlock) v299 y298) := ⟨h2_⟩
              have n3_ : Aside0 (w25.heap[gb285]? = some (.cells #[.int .i64 0, .int .i64 0, .int .i64 0, .slice none 0 0, .slice none 0 0, .slice none 0 0, .slice none 0 0, .int .i64 0, .int .i64 0, .bool false] 25 (0, 0))) := ⟨h3_⟩
              have n4_ : Aside0 (Below w.heap.size w w25) := ⟨h4_⟩
              clear BK285
              clear HB
              clear h0_ h1_ h2_ h3_ h4_
              have HO291 := n0_
              have HO297 := n1_
              have HO300 := n2_
              have BK285 := n3_
              have HB := n4_
              clear n0_ n1_ n2_ n3_ n4_
              have hHeld := trivial
              refine norm_ (a' := ?_) ?_ ?_
              rotate_left
              ·simp only [putAll, Act.put, sI_, s0_, sS_]
               rfl
              refine one_ (i := 5) (N := some 40) #[true, true, true, true, true, true, true, true, true, true, false, false, false] rfl rfl (one_of HT_.out (by kernel_rfl)) (by decide) (fun K hK => ?_)
              refine Kd.R_make_step (Kd.int .i64) _ 3 (by rfl) (N := 40) rfl 23 _ _ rfl (((rd_T39 l0 a1).f2).length : Int) rfl rfl Try.underlying23 (.int .i64 0) 8 info3 rfl (by decide) (by omega) 0 (ok := fun _ => True) (okp := fun _ => True) rfl (fun _ hk => hk) trivial (of_decide_eq_true tW_) (Nat.le_trans (Nat.mul_le_mul_right _ (of_decide_eq_true tW_ : (((rd_T39 l0 a1).f2).length : Int).toNat ≤ 35184372088832)) (by omega)) (Below.refl _ _) (Nat.le_refl _) ?_
              intro v293 w26 ho27 hb hg_ hnew_
              clear hg_ hnew_
              (first | rw [← Ny292.out] at ho27 | (simp only [Int.reduceToNat] at ho27; rw [← Ny292.out] at ho27))
              have HO294 := Aside0.mk (Kd.R_lower (Kd.R_new' (Kd.R_new' (Kd.R_new' ho27 (Kd.R_lt (dR_ HO291))) (Kd.R_lt (dR_ HO297))) (Kd.R_lt (dR_ HO300))) (below_size (dL1_ HB GE285)))
              replace HO291 := Aside0.mk (Kd.R_elder' (dR_ HO291) (Kd.R_base ho27) hb)
              replace HO297 := Aside0.mk (Kd.R_elder' (dR_ HO297) (Kd.R_base ho27) hb)
              replace HO300 := Aside0.mk (Kd.R_elder' (dR_ HO300) (Kd.R_base ho27) hb)
              replace BK285 := Aside0.mk (blk_below (g := gb285) (o := .cells #[.int .i64 0, .int .i64 0, .int .i64 0, .slice none 0 0, .slice none 0 0, .slice none 0 0, .slice none 0 0, .int .i64 0, .int .i64 0, .bool false] 25 (0, 0)) (dB_ BK285) hb)
              replace HB := Aside0.mk (below_step (dL1_ HB GE285) hb)
              clear hb ho27
              obtain ⟨Ao28, co28, eo28⟩ := Kd.R_slice HO300.out
              (first | subst eo28 | (injection eo28 with f1_ f2_ f3_; have f4_ := f1_.symm; have f5_ := f3_.symm; clear f1_ f2_ f3_; subst f4_; subst f5_))
              obtain ⟨Ao29, co29, eo29⟩ := Kd.R_slice HO297.out
              (first | subst eo29 | (injection eo29 with f1_ f2_ f3_; have f4_ := f1_.symm; have f5_ := f3_.symm; clear f1_ f2_ f3_; subst f4_; subst f5_))
              obtain ⟨Ao30, co30, eo30⟩ := Kd.R_slice HO294.out
              (first | subst eo30 | (injection eo30 with f1_ f2_ f3_; have f4_ := f1_.symm; have f5_ := f3_.symm; clear f1_ f2_ f3_; subst f4_; subst f5_))
              obtain ⟨Ao31, co31, eo31⟩ := Kd.R_slice HO291.out
              (first | subst eo31 | (injection eo31 with f1_ f2_ f3_; have f4_ := f1_.symm; have f5_ := f3_.symm; clear f1_ f2_ f3_; subst f4_; subst f5_))
              refine hK.out _ _ trivial (fun hHeld => ?_)
              clear hK K
              refine norm_ (a' := ?_) ?_ ?_
              rotate_left
              ·show Act.put _ (some 40) _ = _
               simp only [Act.put, sI_, s0_, sS_, i64_w, i32_w]
               rfl
              exact norm_ nm_ (hJ3_5_7_9 (.slice Ao31 y289.length co31, .slice Ao30 y292.length co30, .slice Ao29 y295.length co29, .slice Ao28 y298.length co28) _ ⟨(by (with_reducible repeat (first | apply Kd.R_alloc | apply Kd.R_drewN | apply Kd.R_drew)); exact Kd.R_mono HO291.out (fun _ hk => ⟨hk.2, ⟨hk.1.1, hk.1.2⟩⟩)), (by (with_reducible repeat (first | apply Kd.R_alloc | apply Kd.R_drewN | apply Kd.R_drew)); exact Kd.R_mono HO294.out (fun _ hk => ⟨hk.1.1.2, ⟨hk.1.2, hk.2⟩⟩)), (by (with_reducible repeat (first | apply Kd.R_alloc | apply Kd.R_drewN | apply Kd.R_drew)); exact Kd.R_mono HO297.out (fun _ hk => ⟨hk.1.1, ⟨hk.2, hk.1.2⟩⟩)), (by (with_reducible repeat (first | apply Kd.R_alloc | apply Kd.R_drewN | apply Kd.R_drew)); exact Kd.R_mono HO300.out (fun _ hk => ⟨hk.1.1, ⟨hk.2, hk.1.2⟩⟩)), (dB_ BK285), (dL1_ HB GE285)⟩)
            ·skip
             rintro ⟨v290, v293, v299⟩ w25 ⟨h0_, h1_, h2_, h3_, h4_⟩
             have n0_ : Aside0 (Kd.R (Kd.int .i64) 3 w25 w.heap.size (fun k_ => some k_ ≠ (v293 : Value).ownBlock ∧ some k_ ≠ (v299 : Value).ownBlock) v290 y289) := ⟨h0_⟩
             have n1_ : Aside0 (Kd.R (Kd.int .i64) 3 w25 w.heap.size (fun k_ => some k_ ≠ (v290 : Value).ownBlock ∧ some k_ ≠ (v299 : Value).ownBlock) v293 y292) := ⟨h1_⟩
             have n2_ : Aside0 (Kd.R (Kd.int .i64) 3 w25 w.heap.size (fun k_ => some k_ ≠ (v290 : Value).ownBlock ∧ some k_ ≠ (v293 : Value).ownBlock) v299 y298) := ⟨h2_⟩
             have n3_ : Aside0 (w25.heap[gb285]? = some (.cells #[.int .i64 0, .int .i64 0, .int .i64 0, .slice none 0 0, .slice none 0 0, .slice none 0 0, .slice none 0 0, .int .i64 0, .int .i64 0, .bool false] 25 (0, 0))) := ⟨h3_⟩
             have n4_ : Aside0 (Below w.heap.size w w25) := ⟨h4_⟩
             clear BK285
             clear HB
             clear h0_ h1_ h2_ h3_ h4_
             have HO291 := n0_
             have HO294 := n1_
             have HO300 := n2_
             have BK285 := n3_
             have HB := n4_
             clear n0_ n1_ n2_ n3_ n4_
             have hHeld := trivial
             refine norm_ (a' := ?_) ?_ ?_
             rotate_left
             ·simp only [putAll, Act.put, sI_, s0_, sS_]
              rfl
             refine one_ (i := 7) (N := some 42) #[true, true, true, true, true, true, true, true, true, true, false, false, false] rfl rfl (one_of HT_.out (by kernel_rfl)) (by decide) (fun K hK => ?_)
             refine Kd.R_make_step (Kd.int .i64) _ 3 (by rfl) (N := 42) rfl 23 _ _ rfl (((rd_T39 l0 a1).f2).length : Int) rfl rfl Try.underlying23 (.int .i64 0) 8 info3 rfl (by decide) (by omega) 0 (ok := fun _ => True) (okp := fun _ => True) rfl (fun _ hk => hk) trivial (of_decide_eq_true tW_) (Nat.le_trans (Nat.mul_le_mul_right _ (of_decide_eq_true tW_ : (((rd_T39 l0 a1).f2).length : Int).toNat ≤ 35184372088832)) (by omega)) (Below.refl _ _) (Nat.le_refl _) ?_
             intro v296 w26 ho27 hb hg_ hnew_
             clear hg_ hnew_
             (first | rw [← Ny295.out] at ho27 | (simp only [Int.reduceToNat] at ho27; rw [← Ny295.out] at ho27))
             have HO297 := Aside0.mk (Kd.R_lower (Kd.R_new' (Kd.R_new' (Kd.R_new' ho27 (Kd.R_lt (dR_ HO291))) (Kd.R_lt (dR_ HO294))) (Kd.R_lt (dR_ HO300))) (below_size (dL1_ HB GE285)))
             replace HO291 := Aside0.mk (Kd.R_elder' (dR_ HO291) (Kd.R_base ho27) hb)
             replace HO294 := Aside0.mk (Kd.R_elder' (dR_ HO294) (Kd.R_base ho27) hb)
             replace HO300 := Aside0.mk (Kd.R_elder' (dR_ HO300) (Kd.R_base ho27) hb)
             replace BK285 := Aside0.mk (blk_below (g := gb285) (o := .cells #[.int .i64 0, .int .i64 0, .int .i64 0, .slice none 0 0, .slice none 0 0, .slice none 0 0, .slice none 0 0, .int .i64 0, .int .i64 0, .bool false] 25 (0, 0)) (dB_ BK285) hb)
             replace HB := Aside0.mk (below_step (dL1_ HB GE285) hb)
             clear hb ho27
             obtain ⟨Ao28, co28, eo28⟩ := Kd.R_slice HO300.out
             (first | subst eo28 | (injection eo28 with f1_ f2_ f3_; have f4_ := f1_.symm; have f5_ := f3_.symm; clear f1_ f2_ f3_; subst f4_; subst f5_))
             obtain ⟨Ao29, co29, eo29⟩ := Kd.R_slice HO297.out
             (first | subst eo29 | (injection eo29 with f1_ f2_ f3_; have f4_ := f1_.symm; have f5_ := f3_.symm; clear f1_ f2_ f3_; subst f4_; subst f5_))
             obtain ⟨Ao30, co30, eo30⟩ := Kd.R_slice HO294.out
             (first | subst eo30 | (injection eo30 with f1_ f2_ f3_; have f4_ := f1_.symm; have f5_ := f3_.symm; clear f1_ f2_ f3_; subst f4_; subst f5_))
             obtain ⟨Ao31, co31, eo31⟩ := Kd.R_slice HO291.out
             (first | subst eo31 | (injection eo31 with f1_ f2_ f3_; have f4_ := f1_.symm; have f5_ := f3_.symm; clear f1_ f2_ f3_; subst f4_; subst f5_))
             refine hK.out _ _ trivial (fun hHeld => ?_)
             clear hK K
             refine norm_ (a' := ?_) ?_ ?_
             rotate_left
             ·show Act.put _ (some 42) _ = _
              simp only [Act.put, sI_, s0_, sS_, i64_w, i32_w]
              rfl
             exact norm_ nm_ (hJ3_5_7_9 (.slice Ao31 y289.length co31, .slice Ao30 y292.length co30, .slice Ao29 y295.length co29, .slice Ao28 y298.length co28) _ ⟨(by (with_reducible repeat (first | apply Kd.R_alloc | apply Kd.R_drewN | apply Kd.R_drew)); exact Kd.R_mono HO291.out (fun _ hk => ⟨hk.1.1, ⟨hk.2, hk.1.2⟩⟩)), (by (with_reducible repeat (first | apply Kd.R_alloc | apply Kd.R_drewN | apply Kd.R_drew)); exact Kd.R_mono HO294.out (fun _ hk => ⟨hk.1.1, ⟨hk.2, hk.1.2⟩⟩)), (by (with_reducible repeat (first | apply Kd.R_alloc | apply Kd.R_drewN | apply Kd.R_drew)); exact Kd.R_mono HO297.out (fun _ hk => ⟨hk.1.1.2, ⟨hk.1.2, hk.2⟩⟩)), (by (with_reducible repeat (first | apply Kd.R_alloc | apply Kd.R_drewN | apply Kd.R_drew)); exact Kd.R_mono HO300.out (fun _ hk => ⟨hk.1.1, ⟨hk.1.2, hk.2⟩⟩)), (dB_ BK285), (dL1_ HB GE285)⟩)
           ·skip
            rintro ⟨v290, v293, v296⟩ w25 ⟨h0_, h1_, h2_, h3_, h4_⟩
            have n0_ : Aside0 (Kd.R (Kd.int .i64) 3 w25 w.heap.size (fun k_ => some k_ ≠ (v293 : Value).ownBlock ∧ some k_ ≠ (v296 : Value).ownBlock) v290 y289) := ⟨h0_⟩
            have n1_ : Aside0 (Kd.R (Kd.int .i64) 3 w25 w.heap.size (fun k_ => some k_ ≠ (v290 : Value).ownBlock ∧ some k_ ≠ (v296 : Value).ownBlock) v293 y292) := ⟨h1_⟩
            have n2_ : Aside0 (Kd.R (Kd.int .i64) 3 w25 w.heap.size (fun k_ => some k_ ≠ (v290 : Value).ownBlock ∧ some k_ ≠ (v293 : Value).ownBlock) v296 y295) := ⟨h2_⟩
            have n3_ : Aside0 (w25.heap[gb285]? = some (.cells #[.int .i64 0, .int .i64 0, .int .i64 0, .slice none 0 0, .slice none 0 0, .slice none 0 0, .slice none 0 0, .int .i64 0, .int .i64 0, .bool false] 25 (0, 0))) := ⟨h3_⟩
            have n4_ : Aside0 (Below w.heap.size w w25) := ⟨h4_⟩
            clear BK285
            clear HB
            clear h0_ h1_ h2_ h3_ h4_
            have HO291 := n0_
            have HO294 := n1_
            have HO297 := n2_
            have BK285 := n3_
            have HB := n4_
            clear n0_ n1_ n2_ n3_ n4_
            have hHeld := trivial
            refine norm_ (a' := ?_) ?_ ?_
            rotate_left
            ·simp only [putAll, Act.put, sI_, s0_, sS_]
             rfl
            refine one_ (i := 9) (N := some 44) #[true, true, true, true, true, true, true, true, true, true, false, false, false] rfl rfl (one_of HT_.out (by kernel_rfl)) (by decide) (fun K hK => ?_)
            refine Kd.R_make_step (Kd.int .i64) _ 3 (by rfl) (N := 44) rfl 23 _ _ rfl (((rd_T39 l0 a1).f2).length : Int) rfl rfl Try.underlying23 (.int .i64 0) 8 info3 rfl (by decide) (by omega) 0 (ok := fun _ => True) (okp := fun _ => True) rfl (fun _ hk => hk) trivial (of_decide_eq_true tW_) (Nat.le_trans (Nat.mul_le_mul_right _ (of_decide_eq_true tW_ : (((rd_T39 l0 a1).f2).length : Int).toNat ≤ 35184372088832)) (by omega)) (Below.refl _ _) (Nat.le_refl _) ?_
            intro v299 w26 ho27 hb hg_ hnew_
            clear hg_ hnew_
            (first | rw [← Ny298.out] at ho27 | (simp only [Int.reduceToNat] at ho27; rw [← Ny298.out] at ho27))
            have HO300 := Aside0.mk (Kd.R_lower (Kd.R_new' (Kd.R_new' (Kd.R_new' ho27 (Kd.R_lt (dR_ HO291))) (Kd.R_lt (dR_ HO294))) (Kd.R_lt (dR_ HO297))) (below_size (dL1_ HB GE285)))
            replace HO291 := Aside0.mk (Kd.R_elder' (dR_ HO291) (Kd.R_base ho27) hb)
            replace HO294 := Aside0.mk (Kd.R_elder' (dR_ HO294) (Kd.R_base ho27) hb)
            replace HO297 := Aside0.mk (Kd.R_elder' (dR_ HO297) (Kd.R_base ho27) hb)
            replace BK285 := Aside0.mk (blk_below (g := gb285) (o := .cells #[.int .i64 0, .int .i64 0, .int .i64 0, .slice none 0 0, .slice none 0 0, .slice none 0 0, .slice none 0 0, .int .i64 0, .int .i64 0, .bool false] 25 (0, 0)) (dB_ BK285) hb)
            replace HB := Aside0.mk (below_step (dL1_ HB GE285) hb)
            clear hb ho27
            obtain ⟨Ao28, co28, eo28⟩ := Kd.R_slice HO300.out
            (first | subst eo28 | (injection eo28 with f1_ f2_ f3_; have f4_ := f1_.symm; have f5_ := f3_.symm; clear f1_ f2_ f3_; subst f4_; subst f5_))
            obtain ⟨Ao29, co29, eo29⟩ := Kd.R_slice HO297.out
            (first | subst eo29 | (injection eo29 with f1_ f2_ f3_; have f4_ := f1_.symm; have f5_ := f3_.symm; clear f1_ f2_ f3_; subst f4_; subst f5_))
            obtain ⟨Ao30, co30, eo30⟩ := Kd.R_slice HO294.out
            (first | subst eo30 | (injection eo30 with f1_ f2_ f3_; have f4_ := f1_.symm; have f5_ := f3_.symm; clear f1_ f2_ f3_; subst f4_; subst f5_))
            obtain ⟨Ao31, co31, eo31⟩ := Kd.R_slice HO291.out
            (first | subst eo31 | (injection eo31 with f1_ f2_ f3_; have f4_ := f1_.symm; have f5_ := f3_.symm; clear f1_ f2_ f3_; subst f4_; subst f5_))
            refine hK.out _ _ trivial (fun hHeld => ?_)
            clear hK K
            refine norm_ (a' := ?_) ?_ ?_
            rotate_left
            ·show Act.put _ (some 44) _ = _
             simp only [Act.put, sI_, s0_, sS_, i64_w, i32_w]
             rfl
            exact norm_ nm_ (hJ3_5_7_9 (.slice Ao31 y289.length co31, .slice Ao30 y292.length co30, .slice Ao29 y295.length co29, .slice Ao28 y298.length co28) _ ⟨(by (with_reducible repeat (first | apply Kd.R_alloc | apply Kd.R_drewN | apply Kd.R_drew)); exact Kd.R_mono HO291.out (fun _ hk => ⟨hk.1.1, ⟨hk.1.2, hk.2⟩⟩)), (by (with_reducible repeat (first | apply Kd.R_alloc | apply Kd.R_drewN | apply Kd.R_drew)); exact Kd.R_mono HO294.out (fun _ hk => ⟨hk.1.1, ⟨hk.1.2, hk.2⟩⟩)), (by (with_reducible repeat (first | apply Kd.R_alloc | apply Kd.R_drewN | apply Kd.R_drew)); exact Kd.R_mono HO297.out (fun _ hk => ⟨hk.1.1, ⟨hk.1.2, hk.2⟩⟩)), (by (with_reducible repeat (first | apply Kd.R_alloc | apply Kd.R_drewN | apply Kd.R_drew)); exact Kd.R_mono HO300.out (fun _ hk => ⟨hk.1.1.2, ⟨hk.1.2, hk.2⟩⟩)), (dB_ BK285), (dL1_ HB GE285)⟩)
          rintro ⟨v290, v293, v296, v299⟩ w31 ⟨h0_, h1_, h2_, h3_, h4_, h5_⟩
          have n0_ : Aside0 (Kd.R (Kd.int .i64) 3 w31 w.heap.size (fun k_ => some k_ ≠ (v293 : Value).ownBlock ∧ some k_ ≠ (v296 : Value).ownBlock ∧ some k_ ≠ (v299 : Value).ownBlock) v290 y289) := ⟨h0_⟩
          have n1_ : Aside0 (Kd.R (Kd.int .i64) 3 w31 w.heap.size (fun k_ => some k_ ≠ (v290 : Value).ownBlock ∧ some k_ ≠ (v296 : Value).ownBlock ∧ some k_ ≠ (v299 : Value).ownBlock) v293 y292) := ⟨h1_⟩
          have n2_ : Aside0 (Kd.R (Kd.int .i64) 3 w31 w.heap.size (fun k_ => some k_ ≠ (v290 : Value).ownBlock ∧ some k_ ≠ (v293 : Value).ownBlock ∧ some k_ ≠ (v299 : Value).ownBlock) v296 y295) := ⟨h2_⟩
          have n3_ : Aside0 (Kd.R (Kd.int .i64) 3 w31 w.heap.size (fun k_ => some k_ ≠ (v290 : Value).ownBlock ∧ some k_ ≠ (v293 : Value).ownBlock ∧ some k_ ≠ (v296 : Value).ownBlock) v299 y298) := ⟨h3_⟩
          have n4_ : Aside0 (w31.heap[gb285]? = some (.cells #[.int .i64 0, .int .i64 0, .int .i64 0, .slice none 0 0, .slice none 0 0, .slice none 0 0, .slice none 0 0, .int .i64 0, .int .i64 0, .bool false] 25 (0, 0))) := ⟨h4_⟩
          have n5_ : Aside0 (Below w.heap.size w w31) := ⟨h5_⟩
          clear BK285
          clear HB
          clear h0_ h1_ h2_ h3_ h4_ h5_
          have HO291 := n0_
          have HO294 := n1_
          have HO297 := n2_
          have HO300 := n3_
          have BK285 := n4_
          have HB := n5_
          clear n0_ n1_ n2_ n3_ n4_ n5_
          have hHeld := trivial
          obtain ⟨Ao32, co32, eo32⟩ := Kd.R_slice HO300.out
          (first | subst eo32 | (injection eo32 with f1_ f2_ f3_; have f4_ := f1_.symm; have f5_ := f3_.symm; clear f1_ f2_ f3_; subst f4_; subst f5_))
          obtain ⟨Ao33, co33, eo33⟩ := Kd.R_slice HO297.out
          (first | subst eo33 | (injection eo33 with f1_ f2_ f3_; have f4_ := f1_.symm; have f5_ := f3_.symm; clear f1_ f2_ f3_; subst f4_; subst f5_))
          obtain ⟨Ao34, co34, eo34⟩ := Kd.R_slice HO294.out
          (first | subst eo34 | (injection eo34 with f1_ f2_ f3_; have f4_ := f1_.symm; have f5_ := f3_.symm; clear f1_ f2_ f3_; subst f4_; subst f5_))
          obtain ⟨Ao35, co35, eo35⟩ := Kd.R_slice HO291.out
          (first | subst eo35 | (injection eo35 with f1_ f2_ f3_; have f4_ := f1_.symm; have f5_ := f3_.symm; clear f1_ f2_ f3_; subst f4_; subst f5_))
          refine norm_ (a' := ?_) ?_ ?_
          rotate_left
          ·simp only [putAll, Act.put, sI_, s0_, sS_]
           rfl
          refine pure_ (i := 10) (N := some 45) (v := ?_) (a' := ?_) #[true, true, true, true, true, true, true, true, true, true, true, false, false] rfl rfl (any_of HT_.out (by kernel_rfl)) (fun _ _ _ h => h) (Or.inl ⟨by rfl, ?_⟩) ?_ ?_
          rotate_left
          ·intro w'
           go_simp
           with_reducible rfl
          rotate_left
          ·simp only [Act.put, sI_, s0_, sS_, i64_w, i32_w]
           rfl
          refine one_ (i := 11) (N := none) #[true, true, true, true, true, true, true, true, true, true, true, true, false] rfl rfl (one_of HT_.out (by kernel_rfl)) (by decide) (fun K hK => ?_)
          have hs36 : w31.cell? ⟨gb285, 0, none⟩ = some (.int .i64 0) := (blk_cell BK285.out 0).trans rfl
          have hfs36 := blk_frozen BK285.out 0
          have hs37 : w31.cell? ⟨gb285, 1, none⟩ = some (.int .i64 0) := (blk_cell BK285.out 1).trans rfl
          have hfs37 := blk_frozen BK285.out 1
          have hs38 : w31.cell? ⟨gb285, 2, none⟩ = some (.int .i64 0) := (blk_cell BK285.out 2).trans rfl
          have hfs38 := blk_frozen BK285.out 2
          have hs39 : w31.cell? ⟨gb285, 3, none⟩ = some (.slice none 0 0) := (blk_cell BK285.out 3).trans rfl
          have hfs39 := blk_frozen BK285.out 3
          have hs40 : w31.cell? ⟨gb285, 4, none⟩ = some (.slice none 0 0) := (blk_cell BK285.out 4).trans rfl
          have hfs40 := blk_frozen BK285.out 4
          have hs41 : w31.cell? ⟨gb285, 5, none⟩ = some (.slice none 0 0) := (blk_cell BK285.out 5).trans rfl
          have hfs41 := blk_frozen BK285.out 5
          have hs42 : w31.cell? ⟨gb285, 6, none⟩ = some (.slice none 0 0) := (blk_cell BK285.out 6).trans rfl
          have hfs42 := blk_frozen BK285.out 6
          have hs43 : w31.cell? ⟨gb285, 7, none⟩ = some (.int .i64 0) := (blk_cell BK285.out 7).trans rfl
          have hfs43 := blk_frozen BK285.out 7
          have hs44 : w31.cell? ⟨gb285, 8, none⟩ = some (.int .i64 0) := (blk_cell BK285.out 8).trans rfl
          have hfs44 := blk_frozen BK285.out 8
          have hs45 : w31.cell? ⟨gb285, 9, none⟩ = some (.bool false) := (blk_cell BK285.out 9).trans rfl
          have hfs45 := blk_frozen BK285.out 9
          refine skip_ (w1 := ?_) (by rfl) rfl ?_ ?_
          rotate_left
          ·go_simp
           rfl
          refine hK.out _ _ trivial (fun hHeld => ?_)
          clear hK K
          refine pure_ (i := 12) (N := some 7) (v := ?_) (a' := ?_) #[true, true, true, true, true, true, true, true, true, true, true, true, true] rfl rfl (any_of HT_.out (by kernel_rfl)) (fun _ _ _ h => h) (Or.inl ⟨by rfl, ?_⟩) ?_ ?_
          rotate_left
          ·intro w'
           go_simp
           with_reducible rfl
          rotate_left
          ·simp only [Act.put, sI_, s0_, sS_, i64_w, i32_w]
           rfl
          refine done_ (done_of HT_.out (by kernel_rfl)) ?_
          try go_wp2
          refine bodyPost_ret (results_ct rfl _ _ gb285 25 #[.int .i64 a1, .int .i64 a2, .int .i64 16, .slice Ao35 y289.length co35, .slice Ao34 y292.length co34, .slice Ao33 y295.length co33, .slice Ao32 y298.length co32, .int .i64 0, .int .i64 0, .bool true] (0, 0) _ rfl (dP10_ BK285) Try.underlying25 rfl (by kernel_rfl)) rfl ?_
          exact ⟨_, _, _, _, tE_, by (with_reducible repeat (first | apply Kd.R_alloc | apply Kd.R_drewN | apply Kd.R_drew)); exact Kd.R_mono (far10_ (Kd.R_types HO291.out BK285.out (by decide)) gb285 (fun _ hk => hk.2) (.int .i64 a1) (.int .i64 a2) (.int .i64 16) (.slice Ao35 y289.length co35) (.slice Ao34 y292.length co34) (.slice Ao33 y295.length co33) (.slice Ao32 y298.length co32) (.int .i64 0) (.int .i64 0) (.bool true)) (fun _ hk => ⟨hk.1.1, ⟨hk.1.2.1, hk.1.2.2⟩⟩), by (with_reducible repeat (first | apply Kd.R_alloc | apply Kd.R_drewN | apply Kd.R_drew)); exact Kd.R_mono (far10_ (Kd.R_types HO294.out BK285.out (by decide)) gb285 (fun _ hk => hk.2) (.int .i64 a1) (.int .i64 a2) (.int .i64 16) (.slice Ao35 y289.length co35) (.slice Ao34 y292.length co34) (.slice Ao33 y295.length co33) (.slice Ao32 y298.length co32) (.int .i64 0) (.int .i64 0) (.bool true)) (fun _ hk => ⟨hk.1.1, ⟨hk.1.2.1, hk.1.2.2⟩⟩), by (with_reducible repeat (first | apply Kd.R_alloc | apply Kd.R_drewN | apply Kd.R_drew)); exact Kd.R_mono (far10_ (Kd.R_types HO297.out BK285.out (by decide)) gb285 (fun _ hk => hk.2) (.int .i64 a1) (.int .i64 a2) (.int .i64 16) (.slice Ao35 y289.length co35) (.slice Ao34 y292.length co34) (.slice Ao33 y295.length co33) (.slice Ao32 y298.length co32) (.int .i64 0) (.int .i64 0) (.bool true)) (fun _ hk => ⟨hk.1.1, ⟨hk.1.2.1, hk.1.2.2⟩⟩), by (with_reducible repeat (first | apply Kd.R_alloc | apply Kd.R_drewN | apply Kd.R_drew)); exact Kd.R_mono (far10_ (Kd.R_types HO300.out BK285.out (by decide)) gb285 (fun _ hk => hk.2) (.int .i64 a1) (.int .i64 a2) (.int .i64 16) (.slice Ao35 y289.length co35) (.slice Ao34 y292.length co34) (.slice Ao33 y295.length co33) (.slice Ao32 y298.length co32) (.int .i64 0) (.int .i64 0) (.bool true)) (fun _ hk => ⟨hk.1.1, ⟨hk.1.2.1, hk.1.2.2⟩⟩), dL1_ HB GE285⟩
         ·rw [if_neg c17] at H
          exact absurd H (by simp)
        ·rw [if_neg c16] at H
         exact absurd H (by simp)
       ·rw [if_neg c15] at H
        exact absurd H (by simp)
      ·rw [if_neg c14] at H
       exact absurd H (by simp)
     ·replace c13 := Bool.eq_false_iff.mpr c13
      subst c13
      have H1 : (some (0, 0, 0, ([] : List Int), ([] : List Int), ([] : List Int), ([] : List Int), 0, 0, false, 1)) = some (r1, r2, r3, r4, r5, r6, r7, r8, r9, r10, r11) := by rw [if_neg (show ¬ (false = true) by decide)] at H; exact H
      clear H
      have H := H1
      clear H1
      simp only [Option.some.injEq, Prod.mk.injEq] at H
      obtain ⟨rfl, rfl, rfl, rfl, rfl, rfl, rfl, rfl, rfl, rfl, rfl⟩ := H
      go_wp2_with (first | ((with_reducible refine gate_callee (f := 36) rfl ?_); refine goesL_ (some 26) rfl rfl Try.func36 (by kernel_rfl) rfl #[.int .i64 a2, .int .i64 0, .int .i64 1000000] rfl tA_ ?_; (with_reducible refine (hinterlandref10_within.calls a2 0 1000000 false _ A12.out).mono ?_); rintro e w' ⟨rfl, ⟨nd, rfl⟩⟩; refine ⟨_, rfl, ?_⟩; (try (rw [drewN_self wc]; generalize hq_ : World.drewN wc _ = wc; have n0_ : Aside0 (wc.heap[gb285]? = some (.cells #[.int .i64 0, .int .i64 0, .int .i64 0, .slice none 0 0, .slice none 0 0, .slice none 0 0, .slice none 0 0, .int .i64 0, .int .i64 0, .bool false] 25 (0, 0))) := ⟨by rw [← hq_]; exact (dB_ BK285)⟩; have n1_ : Aside0 (Below w.heap.size w wc) := ⟨by rw [← hq_]; exact (dL1_ HB GE285)⟩; clear BK285 HB hq_; have BK285 := n0_; have HB := n1_; clear n0_ n1_)); obtain ⟨hcz46_0, hcz46_1, hcz46_2, hcz46_3, hcz46_4, hcz46_5, hcz46_6, hcz46_7, hcz46_8, hcz46_9, hfz46_0, hfz46_1, hfz46_2, hfz46_3, hfz46_4, hfz46_5, hfz46_6, hfz46_7, hfz46_8, hfz46_9⟩ := cs10_ BK285.out))
      refine bodyPost_ret (results_ct rfl _ _ gb285 25 #[.int .i64 0, .int .i64 0, .int .i64 0, .slice none 0 0, .slice none 0 0, .slice none 0 0, .slice none 0 0, .int .i64 0, .int .i64 0, .bool false] (0, 0) _ rfl (dP10_ BK285) Try.underlying25 rfl (by kernel_rfl)) rfl ?_
      exact ⟨_, _, _, _, tE_, by first | exact Kd.R_nil _ _ _ _ _ | exact Kd.N_nil _ _ _ _ _ | exact Kd.V_nil _ _ _ _ _ | exact Kd.Q_nil _ _ _ _ _ | exact Kd.S_nil _ _ _ _ _, by first | exact Kd.R_nil _ _ _ _ _ | exact Kd.N_nil _ _ _ _ _ | exact Kd.V_nil _ _ _ _ _ | exact Kd.Q_nil _ _ _ _ _ | exact Kd.S_nil _ _ _ _ _, by first | exact Kd.R_nil _ _ _ _ _ | exact Kd.N_nil _ _ _ _ _ | exact Kd.V_nil _ _ _ _ _ | exact Kd.Q_nil _ _ _ _ _ | exact Kd.S_nil _ _ _ _ _, by first | exact Kd.R_nil _ _ _ _ _ | exact Kd.N_nil _ _ _ _ _ | exact Kd.V_nil _ _ _ _ _ | exact Kd.Q_nil _ _ _ _ _ | exact Kd.S_nil _ _ _ _ _, dL1_ HB GE285⟩
 ·rw [if_neg c5] at H
  have c5b0 : (t286 == 0) = false := beq_eq_false_iff_ne.mpr c5
  have c5b1 : (t286 != 0) = true := bne_iff_ne.mpr c5
  simp only [Option.some.injEq, Prod.mk.injEq] at H
  obtain ⟨rfl, rfl, rfl, rfl, rfl, rfl, rfl, rfl, rfl, rfl, rfl⟩ := H
  go_enter Try.func18, Try.ntmps18
  go_wp2_with (first | ((with_reducible refine gate_dst (N := 6) rfl ?_); (try (refine gate_guard (by rfl) ?_; dsimp only)); refine box_event ?hg (N := 6) ?hd (cs := #[.int .i64 0, .int .i64 0, .int .i64 0, .slice none 0 0, .slice none 0 0, .slice none 0 0, .slice none 0 0, .int .i64 0, .int .i64 0, .bool false]) (t := 25) ?hr ?_; (case hd => rfl); (case hg => rfl); (case hr => first | (go_simp; done) | (go_simp; rfl)); intro gb285 hg w47 hbox hb; have BK285 := Aside0.mk (hbox); have GW285 := Aside0.mk ((dS_ hg (dL_ HB) : w.heap.size ≤ gb285)); have GE285 := Aside0.mk ((dS_ hg (dL_ HB) : w.heap.size ≤ gb285)); replace HB := Aside0.mk (below_step (dL_ HB) hb); clear hb hbox hg) | ((with_reducible refine gate_callee (f := 35) rfl ?_); refine goesL_ (some 11) rfl rfl Try.func35 (by kernel_rfl) rfl #[.slice A0 l0.length c0] rfl tA_ ?_; (with_reducible refine (hinterlandref10_ValidateKinds.calls k _ _ l0 t286 _ ?side1 ?side2 A4.out).mono ?_); (case side1 => exact dC_ HR0 HB); (case side2 => exact HC0.out); rintro e w48 ⟨rfl, hb⟩; refine ⟨_, rfl, ?_⟩; replace BK285 := Aside0.mk (blk_below (g := gb285) (o := .cells #[.int .i64 0, .int .i64 0, .int .i64 0, .slice none 0 0, .slice none 0 0, .slice none 0 0, .slice none 0 0, .int .i64 0, .int .i64 0, .bool false] 25 (0, 0)) (dB_ BK285) hb); replace HB := Aside0.mk (below_step (dL1_ HB GE285) hb); obtain ⟨hcz49_0, hcz49_1, hcz49_2, hcz49_3, hcz49_4, hcz49_5, hcz49_6, hcz49_7, hcz49_8, hcz49_9, hfz49_0, hfz49_1, hfz49_2, hfz49_3, hfz49_4, hfz49_5, hfz49_6, hfz49_7, hfz49_8, hfz49_9⟩ := cs10_ BK285.out))
  refine bodyPost_ret (results_ct rfl _ _ gb285 25 #[.int .i64 0, .int .i64 0, .int .i64 0, .slice none 0 0, .slice none 0 0, .slice none 0 0, .slice none 0 0, .int .i64 0, .int .i64 0, .bool false] (0, 0) _ rfl (dP10_ BK285) Try.underlying25 rfl (by kernel_rfl)) rfl ?_
  exact ⟨_, _, _, _, tE_, by first | exact Kd.R_nil _ _ _ _ _ | exact Kd.N_nil _ _ _ _ _ | exact Kd.V_nil _ _ _ _ _ | exact Kd.Q_nil _ _ _ _ _ | exact Kd.S_nil _ _ _ _ _, by first | exact Kd.R_nil _ _ _ _ _ | exact Kd.N_nil _ _ _ _ _ | exact Kd.V_nil _ _ _ _ _ | exact Kd.Q_nil _ _ _ _ _ | exact Kd.S_nil _ _ _ _ _, by first | exact Kd.R_nil _ _ _ _ _ | exact Kd.N_nil _ _ _ _ _ | exact Kd.V_nil _ _ _ _ _ | exact Kd.Q_nil _ _ _ _ _ | exact Kd.S_nil _ _ _ _ _, by first | exact Kd.R_nil _ _ _ _ _ | exact Kd.N_nil _ _ _ _ _ | exact Kd.V_nil _ _ _ _ _ | exact Kd.Q_nil _ _ _ _ _ | exact Kd.S_nil _ _ _ _ _, dL1_ HB GE285⟩

end Go.Proofs.Ytnkgelnkoljgdaa.Q
