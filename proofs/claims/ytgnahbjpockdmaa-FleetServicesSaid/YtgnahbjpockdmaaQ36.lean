-- PRINTED by print.py out of the translation. Not trusted: Lean checks it.
import Derived.Test.YtgnahbjpockdmaaPrs
import Derived.Test.YtgnahbjpockdmaaQ0
import Derived.Test.YtgnahbjpockdmaaQ11
import Derived.Test.YtgnahbjpockdmaaQ27
namespace Go.Proofs.Ytgnahbjpockdmaa.Q
open Go.RowKit Go.Proofs.YtgnahbjpockdmaaPrs Go.Proofs.YtgnahbjpockdmaaOwn Go.Proofs.YtgnahbjpockdmaaW.PrintWords Go.Proofs.YtgnahbjpockdmaaW.PrintLast Go.Proofs.YtgnahbjpockdmaaW.PrintMore
open List renaming setIfInBounds_toArray → sI_, set_cons_zero → s0_, set_cons_succ → sS_
attribute [local go_sem] max2_int min2_int max_two min_two max_three min_three max_four min_four   -- for this text's walks alone
set_option linter.unusedVariables false
set_option linter.unusedSimpArgs false

/-! ### hinterlandref09_Validate: function 44 -/
mutual
def hinterlandref09_Validate.l0 : Nat → List (S69) → Int → Option (Int)
  | 0, _, _ => none
  | k + 1, x0, x3 => if x3 < (x0.length : Int) then (if 0 ≤ x3 then (if x3 > 0 then (if 0 ≤ (wrap64 (x3 - 1)) then (if (wrap64 (x3 - 1)) < (x0.length : Int) then ((hinterlandref09_less.f ((rd_T69 x0 (wrap64 (x3 - 1))).f0) ((rd_T69 x0 (wrap64 (x3 - 1))).f1) ((rd_T69 x0 (wrap64 (x3 - 1))).f2) ((rd_T69 x0 (wrap64 (x3 - 1))).f3) ((rd_T69 x0 (wrap64 (x3 - 1))).f4) ((rd_T69 x0 (wrap64 (x3 - 1))).f5) ((rd_T69 x0 x3).f0) ((rd_T69 x0 x3).f1) ((rd_T69 x0 x3).f2) ((rd_T69 x0 x3).f3) ((rd_T69 x0 x3).f4) ((rd_T69 x0 x3).f5)).bind fun t373 => (if t373 = true then (if ((rd_T69 x0 x3).f4) < 1 then (hinterlandref09_Validate.j1 k x0 x3 true) else (if ((rd_T69 x0 x3).f4) > 1000000 then (hinterlandref09_Validate.j1 k x0 x3 true) else ((hinterlandref09_Out.f ((rd_T69 x0 x3).f3) 255).bind fun t374 => (if t374 = true then (hinterlandref09_Validate.j1 k x0 x3 true) else ((hinterlandref09_Out.f ((rd_T69 x0 x3).f5) 1000000000000).bind fun t375 => (if t375 = true then (hinterlandref09_Validate.j1 k x0 x3 true) else ((hinterlandref09_Out.f ((rd_T69 x0 x3).f0) 1000000).bind fun t376 => (if t376 = true then (hinterlandref09_Validate.j1 k x0 x3 true) else ((hinterlandref09_Out.f ((rd_T69 x0 x3).f1) 1000000).bind fun t377 => (if t377 = true then (hinterlandref09_Validate.j1 k x0 x3 true) else ((hinterlandref09_Out.f ((rd_T69 x0 x3).f2) 1000000).bind fun t378 => (hinterlandref09_Validate.j1 k x0 x3 t378)))))))))))) else (hinterlandref09_Validate.j1 k x0 x3 true))) else (none)) else (none)) else (if ((rd_T69 x0 x3).f4) < 1 then (hinterlandref09_Validate.j1 k x0 x3 true) else (if ((rd_T69 x0 x3).f4) > 1000000 then (hinterlandref09_Validate.j1 k x0 x3 true) else ((hinterlandref09_Out.f ((rd_T69 x0 x3).f3) 255).bind fun t379 => (if t379 = true then (hinterlandref09_Validate.j1 k x0 x3 true) else ((hinterlandref09_Out.f ((rd_T69 x0 x3).f5) 1000000000000).bind fun t380 => (if t380 = true then (hinterlandref09_Validate.j1 k x0 x3 true) else ((hinterlandref09_Out.f ((rd_T69 x0 x3).f0) 1000000).bind fun t381 => (if t381 = true then (hinterlandref09_Validate.j1 k x0 x3 true) else ((hinterlandref09_Out.f ((rd_T69 x0 x3).f1) 1000000).bind fun t382 => (if t382 = true then (hinterlandref09_Validate.j1 k x0 x3 true) else ((hinterlandref09_Out.f ((rd_T69 x0 x3).f2) 1000000).bind fun t383 => (hinterlandref09_Validate.j1 k x0 x3 t383))))))))))))) else (none)) else (some 0)
def hinterlandref09_Validate.j1 : Nat → List (S69) → Int → Bool → Option (Int)
  | 0, _, _, _ => none
  | k + 1, x0, x3, x64 => if x64 = true then (some 1) else (hinterlandref09_Validate.l0 k x0 (wrap64 (x3 + 1)))
end
def hinterlandref09_Validate.f (k : Nat) (l0 : List (S69)) : Option (Int) := if (l0.length : Int) > 200 then (some 4) else (hinterlandref09_Validate.l0 k l0 0)
theorem hinterlandref09_Validate.mono_l : ∀ k, (∀ y0 y1, LeO (hinterlandref09_Validate.l0 k y0 y1) (hinterlandref09_Validate.l0 (k + 1) y0 y1)) ∧ (∀ y0 y1 y2, LeO (hinterlandref09_Validate.j1 k y0 y1 y2) (hinterlandref09_Validate.j1 (k + 1) y0 y1 y2))
  | 0 => ⟨fun _ _ r h => by simp [hinterlandref09_Validate.l0] at h, fun _ _ _ r h => by simp [hinterlandref09_Validate.j1] at h⟩
  | k + 1 => by
    obtain ⟨ih0, ih1⟩ := hinterlandref09_Validate.mono_l k
    refine ⟨?_, ?_⟩
    · intro y0 y1
      unfold hinterlandref09_Validate.l0
      repeat' first
      | (with_reducible first | exact ih0 _ _ | exact ih1 _ _ _ | exact LeO.refl _ | exact LeO.none _ | refine LeO.ite ?_ ?_ | refine LeO.bind ?_ (fun _ => ?_))
      | exact ih0 _ _
      | exact ih1 _ _ _
      | exact LeO.none _
      | refine LeO.ite ?_ ?_
      | refine LeO.bind ?_ (fun _ => ?_)
    · intro y0 y1 y2
      unfold hinterlandref09_Validate.j1
      repeat' first
      | (with_reducible first | exact ih0 _ _ | exact ih1 _ _ _ | exact LeO.refl _ | exact LeO.none _ | refine LeO.ite ?_ ?_ | refine LeO.bind ?_ (fun _ => ?_))
      | exact ih0 _ _
      | exact ih1 _ _ _
      | exact LeO.none _
      | refine LeO.ite ?_ ?_
      | refine LeO.bind ?_ (fun _ => ?_)
theorem hinterlandref09_Validate.mono : ∀ a0 k, LeO (hinterlandref09_Validate.f k a0) (hinterlandref09_Validate.f (k + 1) a0) := by
  intro a0 k
  obtain ⟨ih0, ih1⟩ := hinterlandref09_Validate.mono_l k
  unfold hinterlandref09_Validate.f
  repeat' first
      | (with_reducible first | exact ih0 _ _ | exact ih1 _ _ _ | exact LeO.refl _ | exact LeO.none _ | refine LeO.ite ?_ ?_ | refine LeO.bind ?_ (fun _ => ?_))
      | exact ih0 _ _
      | exact ih1 _ _ _
      | exact LeO.none _
      | refine LeO.ite ?_ ?_
      | refine LeO.bind ?_ (fun _ => ?_)
def hinterlandref09_Validate.T7 : Bool × List (List Nat × List Nat) := (true, [([], []), ([0], [0]), ([1], [1]), ([2], [2]), ([2], [2]), ([4, 2], [2, 4]), ([3, 5, 2], [2, 3, 5]), ([6, 2], [2, 6]), ([2], [2]), ([7, 8, 2, 2], [2, 7, 8]), ([9, 2], [2, 9]), ([2, 10], [2, 10]), ([11, 9], [11]), ([12], [12]), ([13, 12], [12, 13]), ([14, 12], [12, 14]), ([12, 15], [12, 15]), ([16, 12], [16]), ([17], [17]), ([18, 17], [17, 18]), ([19, 17], [17, 19]), ([17, 20], [17, 20]), ([21, 17], [21]), ([22], [22]), ([23, 22], [22, 23]), ([24, 22, 22], [22, 24]), ([22, 25], [22, 25]), ([26, 25], [26]), ([27], [27]), ([28, 27], [27, 28]), ([29, 27, 27], [27, 29]), ([27, 30], [27, 30]), ([31, 30], [31]), ([32], [32]), ([33, 32], [32, 33]), ([34, 32, 32], [32, 34]), ([32, 35], [32, 35]), ([36, 35], [36]), ([37], [37]), ([38, 37], [37, 38]), ([39, 37, 37], [37, 39]), ([37, 40], [37, 40]), ([41, 40], [41]), ([42], [42]), ([43, 42], [42, 43]), ([44, 42, 42], [42, 44]), ([42, 45], [42, 45])])
def hinterlandref09_Validate.B7 : List Nat := [0, 1, 3, 7, 7, 23, 63, 127, 7, 511, 1023, 2047, 4095, 8191, 16383, 32767, 65535, 131071, 262143, 524287, 1048575, 2097151, 4194303, 8388607, 16777215, 33554431, 67108863, 134217727, 268435455, 536870911, 1073741823, 2147483647, 4294967295, 8589934591, 17179869183, 34359738367, 68719476735, 137438953471, 274877906943, 549755813887, 1099511627775, 2199023255551, 4398046511103, 8796093022207, 17592186044415, 35184372088831, 70368744177663]
theorem hinterlandref09_Validate.tab7 : rtab .any (opsOf Try.f44 7) = hinterlandref09_Validate.T7 := by kernel_rfl
theorem hinterlandref09_Validate.bits7 : waitsOk hinterlandref09_Validate.T7.2 hinterlandref09_Validate.B7 = true := by kernel_rfl
set_option maxHeartbeats 8000000 in
set_option maxRecDepth 100000 in
theorem hinterlandref09_Validate.calls (k : Nat) (A0 : Option Addr) (c0 : Nat) (l0 : List (S69)) (r : Int) (w : World) (hr0 : Kd.C k69 w A0 l0.length l0) (hc0 : l0.length ≤ c0) (h : hinterlandref09_Validate.f k l0 = some r) :
    Calls Try.prog 44 #[.slice A0 l0.length c0] w fun e w' => e = .returned (.int .i64 r) ∧ Below w.heap.size w w' := by
 have hu69 := Try.underlying69
 have HR0 := Aside0.mk hr0
 have HC0 := Aside0.mk hc0
 clear hr0 hc0
 have HB := Aside0.mk (Below.refl w.heap.size w)
 have H : (if (l0.length : Int) > 200 then (some 4) else (hinterlandref09_Validate.l0 k l0 0)) = some r := h
 clear h
 by_cases c2 : (l0.length : Int) > 200
 ·rw [if_pos c2] at H
  have c2b0 : decide (200 < (l0.length : Int)) = true := decide_eq_true c2
  have c2b1 : decide (200 < l0.length) = true := decide_eq_true (by omega)
  clear c2
  obtain rfl := Option.some.inj H
  go_enter Try.func44, Try.ntmps44
  go_wp2
  go_ret
  exact ⟨tE_, dL_ HB⟩
 ·rw [if_neg c2] at H
  have c2b0 : decide (200 < (l0.length : Int)) = false := decide_eq_false c2
  have c2b1 : decide (200 < l0.length) = false := decide_eq_false (by omega)
  clear c2
  have H' := Aside0.mk H
  clear H
  go_enter Try.func44, Try.ntmps44
  go_wp2
  go_loopg [3] k (fun kq v3 w' => ∃ (x3_1 : Int), v3 = .int .i64 x3_1 ∧ Aside0 (hinterlandref09_Validate.l0 kq l0 x3_1 = some r) ∧ Aside0 (kq ≤ k) ∧ Aside0 (Below w.heap.size w w'))
  case atStart => exact ⟨(0), tS_, H', ⟨Nat.le_refl _⟩, ⟨dL_ HB⟩⟩
  case round =>
   clear H'
   try clear c2
   try clear c2b0
   try clear c2b1
   obtain ⟨x3_1, rfl, HA, HK1, HB⟩ := hrel
   cases gk with
   | zero => exact absurd HA.out (by simp [hinterlandref09_Validate.l0])
   | succ k1 =>
    have H := HA.out
    clear HA
    simp only [hinterlandref09_Validate.l0] at H
    by_cases c3 : x3_1 < (l0.length : Int)
    ·rw [if_pos c3] at H
     have c3b0 : decide (x3_1 < (l0.length : Int)) = true := decide_eq_true c3
     clear c3
     by_cases c4 : 0 ≤ x3_1
     ·rw [if_pos c4] at H
      have c4b0 : decide (0 ≤ x3_1) = true := decide_eq_true c4
      clear c4
      have HC5 := Aside0.mk H
      clear H
      have p370 : 0 ≤ (x3_1 : Int) := of_decide_eq_true tW_
      have q370 : x3_1 < (l0.length : Int) := of_decide_eq_true tW_
      obtain ⟨ad370, e370, hx370_0, hx370_1, hx370_2, hx370_3, hx370_4, hx370_5⟩ := at_T69 HR0.out x3_1 p370 q370
      cases e370
      replace hx370_0 := bc_ HB hx370_0
      replace hx370_1 := bc_ HB hx370_1
      replace hx370_2 := bc_ HB hx370_2
      replace hx370_3 := bc_ HB hx370_3
      replace hx370_4 := bc_ HB hx370_4
      replace hx370_5 := bc_ HB hx370_5
      replace p370 := eq_true p370
      replace q370 := eq_true q370
      go_upto_region 7 with (first | ((with_reducible refine gate_dst (N := 4) rfl ?_); refine box_event ?hg (N := 4) ?hd (cs := #[.int .i64 0, .int .i64 0, .int .i64 0, .int .i64 0, .int .i64 0, .int .i64 0]) (t := 69) ?hr ?_; (case hd => rfl); (case hg => rfl); (case hr => first | (go_simp; done) | (go_simp; rfl)); intro gb371 hg w6 hbox hb; have BK371 := Aside0.mk (hbox); have GW371 := Aside0.mk ((dS_ hg (dL_ HB) : w.heap.size ≤ gb371)); have GE371 := Aside0.mk ((dS_ hg (dL_ HB) : w.heap.size ≤ gb371)); replace HB := Aside0.mk (below_step (dL_ HB) hb); clear hb hbox hg; obtain ⟨hcz7_0, hcz7_1, hcz7_2, hcz7_3, hcz7_4, hcz7_5, hfz7_0, hfz7_1, hfz7_2, hfz7_3, hfz7_4, hfz7_5⟩ := cs6_ BK371.out))
      (try simp only [Act.put, sI_, s0_, sS_])
      go_cut [64] (fun v64 wc => ∃ (kq : Nat) (x64_4 : Bool), v64 = .bool x64_4 ∧ Aside0 (hinterlandref09_Validate.j1 kq l0 x3_1 x64_4 = some r) ∧ Aside0 (kq ≤ k1) ∧ Aside0 (wc.heap[gb371]? = some (.cells #[.int .i64 ((rd_T69 l0 x3_1).f0), .int .i64 ((rd_T69 l0 x3_1).f1), .int .i64 ((rd_T69 l0 x3_1).f2), .int .i64 ((rd_T69 l0 x3_1).f3), .int .i64 ((rd_T69 l0 x3_1).f4), .int .i64 ((rd_T69 l0 x3_1).f5)] 69 (0, 0))) ∧ Aside0 (Below w.heap.size w wc))
      case first =>
       have H := HC5.out
       clear HC5
       refine (Classical.em (x3_1 > 0)).elim (fun c8 => ?a12_) (fun c8 => ?b12_)
       case' a12_ =>
        rw [if_pos c8] at H
        have c8b0 : decide (0 < x3_1) = true := decide_eq_true c8
        clear c8
        (first | rw [c8b0] | (simp only [i64_w, i32_w]; rw [c8b0]) | skip)
        obtain ⟨ji9, hji9⟩ : ∃ j_ : Int, (wrap64 (x3_1 - 1)) = j_ := ⟨_, rfl⟩
        replace H : (if 0 ≤ (ji9) then (if (ji9) < (l0.length : Int) then ((hinterlandref09_less.f ((rd_T69 l0 (ji9)).f0) ((rd_T69 l0 (ji9)).f1) ((rd_T69 l0 (ji9)).f2) ((rd_T69 l0 (ji9)).f3) ((rd_T69 l0 (ji9)).f4) ((rd_T69 l0 (ji9)).f5) ((rd_T69 l0 x3_1).f0) ((rd_T69 l0 x3_1).f1) ((rd_T69 l0 x3_1).f2) ((rd_T69 l0 x3_1).f3) ((rd_T69 l0 x3_1).f4) ((rd_T69 l0 x3_1).f5)).bind fun t373 => (if t373 = true then (if ((rd_T69 l0 x3_1).f4) < 1 then (hinterlandref09_Validate.j1 k1 l0 x3_1 true) else (if ((rd_T69 l0 x3_1).f4) > 1000000 then (hinterlandref09_Validate.j1 k1 l0 x3_1 true) else ((hinterlandref09_Out.f ((rd_T69 l0 x3_1).f3) 255).bind fun t374 => (if t374 = true then (hinterlandref09_Validate.j1 k1 l0 x3_1 true) else ((hinterlandref09_Out.f ((rd_T69 l0 x3_1).f5) 1000000000000).bind fun t375 => (if t375 = true then (hinterlandref09_Validate.j1 k1 l0 x3_1 true) else ((hinterlandref09_Out.f ((rd_T69 l0 x3_1).f0) 1000000).bind fun t376 => (if t376 = true then (hinterlandref09_Validate.j1 k1 l0 x3_1 true) else ((hinterlandref09_Out.f ((rd_T69 l0 x3_1).f1) 1000000).bind fun t377 => (if t377 = true then (hinterlandref09_Validate.j1 k1 l0 x3_1 true) else ((hinterlandref09_Out.f ((rd_T69 l0 x3_1).f2) 1000000).bind fun t378 => (hinterlandref09_Validate.j1 k1 l0 x3_1 t378)))))))))))) else (hinterlandref09_Validate.j1 k1 l0 x3_1 true))) else (none)) else (none)) = some r := by first | (rw [hji9] at H; exact H) | (simp only [hji9] at H ⊢; exact H)
        have hji9w : (IntKind.i64.wrap (x3_1 - 1)) = ji9 := (i64_w _).trans hji9
        refine (Classical.em (0 ≤ (ji9))).elim (fun c10 => ?a13_) (fun c10 => ?b13_)
        case' a13_ =>
         rw [if_pos c10] at H
         have c10b0 : decide (0 ≤ (ji9)) = true := decide_eq_true c10
         clear c10
         refine (Classical.em ((ji9) < (l0.length : Int))).elim (fun c11 => ?a14_) (fun c11 => ?b14_)
         case' a14_ =>
          rw [if_pos c11] at H
          have c11b0 : decide ((ji9) < (l0.length : Int)) = true := decide_eq_true c11
          clear c11
          replace H := Option.bind_eq_some_iff.mp H
          obtain ⟨t373, A120, H⟩ := H
          replace H : (if t373 = true then (if ((rd_T69 l0 x3_1).f4) < 1 then (hinterlandref09_Validate.j1 k1 l0 x3_1 true) else (if ((rd_T69 l0 x3_1).f4) > 1000000 then (hinterlandref09_Validate.j1 k1 l0 x3_1 true) else ((hinterlandref09_Out.f ((rd_T69 l0 x3_1).f3) 255).bind fun t374 => (if t374 = true then (hinterlandref09_Validate.j1 k1 l0 x3_1 true) else ((hinterlandref09_Out.f ((rd_T69 l0 x3_1).f5) 1000000000000).bind fun t375 => (if t375 = true then (hinterlandref09_Validate.j1 k1 l0 x3_1 true) else ((hinterlandref09_Out.f ((rd_T69 l0 x3_1).f0) 1000000).bind fun t376 => (if t376 = true then (hinterlandref09_Validate.j1 k1 l0 x3_1 true) else ((hinterlandref09_Out.f ((rd_T69 l0 x3_1).f1) 1000000).bind fun t377 => (if t377 = true then (hinterlandref09_Validate.j1 k1 l0 x3_1 true) else ((hinterlandref09_Out.f ((rd_T69 l0 x3_1).f2) 1000000).bind fun t378 => (hinterlandref09_Validate.j1 k1 l0 x3_1 t378)))))))))))) else (hinterlandref09_Validate.j1 k1 l0 x3_1 true)) = some r := H
          have A12 := Aside0.mk A120
          clear A120
          refine (Classical.em (t373 = true)).elim (fun c13 => ?a15_) (fun c13 => ?b15_)
          case' a15_ =>
           subst c13
           have H1 : (if ((rd_T69 l0 x3_1).f4) < 1 then (hinterlandref09_Validate.j1 k1 l0 x3_1 true) else (if ((rd_T69 l0 x3_1).f4) > 1000000 then (hinterlandref09_Validate.j1 k1 l0 x3_1 true) else ((hinterlandref09_Out.f ((rd_T69 l0 x3_1).f3) 255).bind fun t374 => (if t374 = true then (hinterlandref09_Validate.j1 k1 l0 x3_1 true) else ((hinterlandref09_Out.f ((rd_T69 l0 x3_1).f5) 1000000000000).bind fun t375 => (if t375 = true then (hinterlandref09_Validate.j1 k1 l0 x3_1 true) else ((hinterlandref09_Out.f ((rd_T69 l0 x3_1).f0) 1000000).bind fun t376 => (if t376 = true then (hinterlandref09_Validate.j1 k1 l0 x3_1 true) else ((hinterlandref09_Out.f ((rd_T69 l0 x3_1).f1) 1000000).bind fun t377 => (if t377 = true then (hinterlandref09_Validate.j1 k1 l0 x3_1 true) else ((hinterlandref09_Out.f ((rd_T69 l0 x3_1).f2) 1000000).bind fun t378 => (hinterlandref09_Validate.j1 k1 l0 x3_1 t378)))))))))))) = some r := by rw [if_pos rfl] at H; exact H
           clear H
           have H := H1
           clear H1
           refine (Classical.em (((rd_T69 l0 x3_1).f4) < 1)).elim (fun c14 => ?a16_) (fun c14 => ?b16_)
           case' a16_ =>
            rw [if_pos c14] at H
            have c14b0 : decide (((rd_T69 l0 x3_1).f4) < 1) = true := decide_eq_true c14
            clear c14
            have H' := Aside0.mk H
            clear H
           case' b16_ =>
            rw [if_neg c14] at H
            have c14b0 : decide (((rd_T69 l0 x3_1).f4) < 1) = false := decide_eq_false c14
            clear c14
            refine (Classical.em (((rd_T69 l0 x3_1).f4) > 1000000)).elim (fun c18 => ?a17_) (fun c18 => ?b17_)
            case' a17_ =>
             rw [if_pos c18] at H
             have c18b0 : decide (1000000 < ((rd_T69 l0 x3_1).f4)) = true := decide_eq_true c18
             clear c18
             have H' := Aside0.mk H
             clear H
            case' b17_ =>
             rw [if_neg c18] at H
             have c18b0 : decide (1000000 < ((rd_T69 l0 x3_1).f4)) = false := decide_eq_false c18
             clear c18
             replace H := Option.bind_eq_some_iff.mp H
             obtain ⟨t374, A220, H⟩ := H
             replace H : (if t374 = true then (hinterlandref09_Validate.j1 k1 l0 x3_1 true) else ((hinterlandref09_Out.f ((rd_T69 l0 x3_1).f5) 1000000000000).bind fun t375 => (if t375 = true then (hinterlandref09_Validate.j1 k1 l0 x3_1 true) else ((hinterlandref09_Out.f ((rd_T69 l0 x3_1).f0) 1000000).bind fun t376 => (if t376 = true then (hinterlandref09_Validate.j1 k1 l0 x3_1 true) else ((hinterlandref09_Out.f ((rd_T69 l0 x3_1).f1) 1000000).bind fun t377 => (if t377 = true then (hinterlandref09_Validate.j1 k1 l0 x3_1 true) else ((hinterlandref09_Out.f ((rd_T69 l0 x3_1).f2) 1000000).bind fun t378 => (hinterlandref09_Validate.j1 k1 l0 x3_1 t378))))))))) = some r := H
             have A22 := Aside0.mk A220
             clear A220
             refine (Classical.em (t374 = true)).elim (fun c23 => ?a18_) (fun c23 => ?b18_)
             case' a18_ =>
              subst c23
              have H1 : (hinterlandref09_Validate.j1 k1 l0 x3_1 true) = some r := by rw [if_pos rfl] at H; exact H
              clear H
              have H := H1
              clear H1
              have H' := Aside0.mk H
              clear H
             case' b18_ =>
              replace c23 := Bool.eq_false_iff.mpr c23
              subst c23
              have H1 : ((hinterlandref09_Out.f ((rd_T69 l0 x3_1).f5) 1000000000000).bind fun t375 => (if t375 = true then (hinterlandref09_Validate.j1 k1 l0 x3_1 true) else ((hinterlandref09_Out.f ((rd_T69 l0 x3_1).f0) 1000000).bind fun t376 => (if t376 = true then (hinterlandref09_Validate.j1 k1 l0 x3_1 true) else ((hinterlandref09_Out.f ((rd_T69 l0 x3_1).f1) 1000000).bind fun t377 => (if t377 = true then (hinterlandref09_Validate.j1 k1 l0 x3_1 true) else ((hinterlandref09_Out.f ((rd_T69 l0 x3_1).f2) 1000000).bind fun t378 => (hinterlandref09_Validate.j1 k1 l0 x3_1 t378)))))))) = some r := by rw [if_neg (show ¬ (false = true) by decide)] at H; exact H
              clear H
              have H := H1
              clear H1
              replace H := Option.bind_eq_some_iff.mp H
              obtain ⟨t375, A270, H⟩ := H
              replace H : (if t375 = true then (hinterlandref09_Validate.j1 k1 l0 x3_1 true) else ((hinterlandref09_Out.f ((rd_T69 l0 x3_1).f0) 1000000).bind fun t376 => (if t376 = true then (hinterlandref09_Validate.j1 k1 l0 x3_1 true) else ((hinterlandref09_Out.f ((rd_T69 l0 x3_1).f1) 1000000).bind fun t377 => (if t377 = true then (hinterlandref09_Validate.j1 k1 l0 x3_1 true) else ((hinterlandref09_Out.f ((rd_T69 l0 x3_1).f2) 1000000).bind fun t378 => (hinterlandref09_Validate.j1 k1 l0 x3_1 t378))))))) = some r := H
              have A27 := Aside0.mk A270
              clear A270
              refine (Classical.em (t375 = true)).elim (fun c28 => ?a19_) (fun c28 => ?b19_)
              case' a19_ =>
               subst c28
               have H1 : (hinterlandref09_Validate.j1 k1 l0 x3_1 true) = some r := by rw [if_pos rfl] at H; exact H
               clear H
               have H := H1
               clear H1
               have H' := Aside0.mk H
               clear H
              case' b19_ =>
               replace c28 := Bool.eq_false_iff.mpr c28
               subst c28
               have H1 : ((hinterlandref09_Out.f ((rd_T69 l0 x3_1).f0) 1000000).bind fun t376 => (if t376 = true then (hinterlandref09_Validate.j1 k1 l0 x3_1 true) else ((hinterlandref09_Out.f ((rd_T69 l0 x3_1).f1) 1000000).bind fun t377 => (if t377 = true then (hinterlandref09_Validate.j1 k1 l0 x3_1 true) else ((hinterlandref09_Out.f ((rd_T69 l0 x3_1).f2) 1000000).bind fun t378 => (hinterlandref09_Validate.j1 k1 l0 x3_1 t378)))))) = some r := by rw [if_neg (show ¬ (false = true) by decide)] at H; exact H
               clear H
               have H := H1
               clear H1
               replace H := Option.bind_eq_some_iff.mp H
               obtain ⟨t376, A320, H⟩ := H
               replace H : (if t376 = true then (hinterlandref09_Validate.j1 k1 l0 x3_1 true) else ((hinterlandref09_Out.f ((rd_T69 l0 x3_1).f1) 1000000).bind fun t377 => (if t377 = true then (hinterlandref09_Validate.j1 k1 l0 x3_1 true) else ((hinterlandref09_Out.f ((rd_T69 l0 x3_1).f2) 1000000).bind fun t378 => (hinterlandref09_Validate.j1 k1 l0 x3_1 t378))))) = some r := H
               have A32 := Aside0.mk A320
               clear A320
               refine (Classical.em (t376 = true)).elim (fun c33 => ?a20_) (fun c33 => ?b20_)
               case' a20_ =>
                subst c33
                have H1 : (hinterlandref09_Validate.j1 k1 l0 x3_1 true) = some r := by rw [if_pos rfl] at H; exact H
                clear H
                have H := H1
                clear H1
                have H' := Aside0.mk H
                clear H
               case' b20_ =>
                replace c33 := Bool.eq_false_iff.mpr c33
                subst c33
                have H1 : ((hinterlandref09_Out.f ((rd_T69 l0 x3_1).f1) 1000000).bind fun t377 => (if t377 = true then (hinterlandref09_Validate.j1 k1 l0 x3_1 true) else ((hinterlandref09_Out.f ((rd_T69 l0 x3_1).f2) 1000000).bind fun t378 => (hinterlandref09_Validate.j1 k1 l0 x3_1 t378)))) = some r := by rw [if_neg (show ¬ (false = true) by decide)] at H; exact H
                clear H
                have H := H1
                clear H1
                replace H := Option.bind_eq_some_iff.mp H
                obtain ⟨t377, A370, H⟩ := H
                replace H : (if t377 = true then (hinterlandref09_Validate.j1 k1 l0 x3_1 true) else ((hinterlandref09_Out.f ((rd_T69 l0 x3_1).f2) 1000000).bind fun t378 => (hinterlandref09_Validate.j1 k1 l0 x3_1 t378))) = some r := H
                have A37 := Aside0.mk A370
                clear A370
                refine (Classical.em (t377 = true)).elim (fun c38 => ?a21_) (fun c38 => ?b21_)
                case' a21_ =>
                 subst c38
                 have H1 : (hinterlandref09_Validate.j1 k1 l0 x3_1 true) = some r := by rw [if_pos rfl] at H; exact H
                 clear H
                 have H := H1
                 clear H1
                 have H' := Aside0.mk H
                 clear H
                case' b21_ =>
                 replace c38 := Bool.eq_false_iff.mpr c38
                 subst c38
                 have H1 : ((hinterlandref09_Out.f ((rd_T69 l0 x3_1).f2) 1000000).bind fun t378 => (hinterlandref09_Validate.j1 k1 l0 x3_1 t378)) = some r := by rw [if_neg (show ¬ (false = true) by decide)] at H; exact H
                 clear H
                 have H := H1
                 clear H1
                 replace H := Option.bind_eq_some_iff.mp H
                 obtain ⟨t378, A420, H⟩ := H
                 replace H : (hinterlandref09_Validate.j1 k1 l0 x3_1 t378) = some r := H
                 have A42 := Aside0.mk A420
                 clear A420
                 have H' := Aside0.mk H
                 clear H
          case' b15_ =>
           replace c13 := Bool.eq_false_iff.mpr c13
           subst c13
           have H1 : (hinterlandref09_Validate.j1 k1 l0 x3_1 true) = some r := by rw [if_neg (show ¬ (false = true) by decide)] at H; exact H
           clear H
           have H := H1
           clear H1
           have H' := Aside0.mk H
           clear H
         case b14_ =>
          rw [if_neg c11] at H
          exact absurd H (by simp)
        case b13_ =>
         rw [if_neg c10] at H
         exact absurd H (by simp)
       case' b12_ =>
        rw [if_neg c8] at H
        have c8b0 : decide (0 < x3_1) = false := decide_eq_false c8
        clear c8
        (first | rw [c8b0] | (simp only [i64_w, i32_w]; rw [c8b0]) | skip)
        refine (Classical.em (((rd_T69 l0 x3_1).f4) < 1)).elim (fun c49 => ?a22_) (fun c49 => ?b22_)
        case' a22_ =>
         rw [if_pos c49] at H
         have c49b0 : decide (((rd_T69 l0 x3_1).f4) < 1) = true := decide_eq_true c49
         clear c49
         have H' := Aside0.mk H
         clear H
        case' b22_ =>
         rw [if_neg c49] at H
         have c49b0 : decide (((rd_T69 l0 x3_1).f4) < 1) = false := decide_eq_false c49
         clear c49
         refine (Classical.em (((rd_T69 l0 x3_1).f4) > 1000000)).elim (fun c52 => ?a23_) (fun c52 => ?b23_)
         case' a23_ =>
          rw [if_pos c52] at H
          have c52b0 : decide (1000000 < ((rd_T69 l0 x3_1).f4)) = true := decide_eq_true c52
          clear c52
          have H' := Aside0.mk H
          clear H
         case' b23_ =>
          rw [if_neg c52] at H
          have c52b0 : decide (1000000 < ((rd_T69 l0 x3_1).f4)) = false := decide_eq_false c52
          clear c52
          replace H := Option.bind_eq_some_iff.mp H
          obtain ⟨t379, A550, H⟩ := H
          replace H : (if t379 = true then (hinterlandref09_Validate.j1 k1 l0 x3_1 true) else ((hinterlandref09_Out.f ((rd_T69 l0 x3_1).f5) 1000000000000).bind fun t380 => (if t380 = true then (hinterlandref09_Validate.j1 k1 l0 x3_1 true) else ((hinterlandref09_Out.f ((rd_T69 l0 x3_1).f0) 1000000).bind fun t381 => (if t381 = true then (hinterlandref09_Validate.j1 k1 l0 x3_1 true) else ((hinterlandref09_Out.f ((rd_T69 l0 x3_1).f1) 1000000).bind fun t382 => (if t382 = true then (hinterlandref09_Validate.j1 k1 l0 x3_1 true) else ((hinterlandref09_Out.f ((rd_T69 l0 x3_1).f2) 1000000).bind fun t383 => (hinterlandref09_Validate.j1 k1 l0 x3_1 t383))))))))) = some r := H
          have A55 := Aside0.mk A550
          clear A550
          refine (Classical.em (t379 = true)).elim (fun c56 => ?a24_) (fun c56 => ?b24_)
          case' a24_ =>
           subst c56
           have H1 : (hinterlandref09_Validate.j1 k1 l0 x3_1 true) = some r := by rw [if_pos rfl] at H; exact H
           clear H
           have H := H1
           clear H1
           have H' := Aside0.mk H
           clear H
          case' b24_ =>
           replace c56 := Bool.eq_false_iff.mpr c56
           subst c56
           have H1 : ((hinterlandref09_Out.f ((rd_T69 l0 x3_1).f5) 1000000000000).bind fun t380 => (if t380 = true then (hinterlandref09_Validate.j1 k1 l0 x3_1 true) else ((hinterlandref09_Out.f ((rd_T69 l0 x3_1).f0) 1000000).bind fun t381 => (if t381 = true then (hinterlandref09_Validate.j1 k1 l0 x3_1 true) else ((hinterlandref09_Out.f ((rd_T69 l0 x3_1).f1) 1000000).bind fun t382 => (if t382 = true then (hinterlandref09_Validate.j1 k1 l0 x3_1 true) else ((hinterlandref09_Out.f ((rd_T69 l0 x3_1).f2) 1000000).bind fun t383 => (hinterlandref09_Validate.j1 k1 l0 x3_1 t383)))))))) = some r := by rw [if_neg (show ¬ (false = true) by decide)] at H; exact H
           clear H
           have H := H1
           clear H1
           replace H := Option.bind_eq_some_iff.mp H
           obtain ⟨t380, A590, H⟩ := H
           replace H : (if t380 = true then (hinterlandref09_Validate.j1 k1 l0 x3_1 true) else ((hinterlandref09_Out.f ((rd_T69 l0 x3_1).f0) 1000000).bind fun t381 => (if t381 = true then (hinterlandref09_Validate.j1 k1 l0 x3_1 true) else ((hinterlandref09_Out.f ((rd_T69 l0 x3_1).f1) 1000000).bind fun t382 => (if t382 = true then (hinterlandref09_Validate.j1 k1 l0 x3_1 true) else ((hinterlandref09_Out.f ((rd_T69 l0 x3_1).f2) 1000000).bind fun t383 => (hinterlandref09_Validate.j1 k1 l0 x3_1 t383))))))) = some r := H
           have A59 := Aside0.mk A590
           clear A590
           refine (Classical.em (t380 = true)).elim (fun c60 => ?a25_) (fun c60 => ?b25_)
           case' a25_ =>
            subst c60
            have H1 : (hinterlandref09_Validate.j1 k1 l0 x3_1 true) = some r := by rw [if_pos rfl] at H; exact H
            clear H
            have H := H1
            clear H1
            have H' := Aside0.mk H
            clear H
           case' b25_ =>
            replace c60 := Bool.eq_false_iff.mpr c60
            subst c60
            have H1 : ((hinterlandref09_Out.f ((rd_T69 l0 x3_1).f0) 1000000).bind fun t381 => (if t381 = true then (hinterlandref09_Validate.j1 k1 l0 x3_1 true) else ((hinterlandref09_Out.f ((rd_T69 l0 x3_1).f1) 1000000).bind fun t382 => (if t382 = true then (hinterlandref09_Validate.j1 k1 l0 x3_1 true) else ((hinterlandref09_Out.f ((rd_T69 l0 x3_1).f2) 1000000).bind fun t383 => (hinterlandref09_Validate.j1 k1 l0 x3_1 t383)))))) = some r := by rw [if_neg (show ¬ (false = true) by decide)] at H; exact H
            clear H
            have H := H1
            clear H1
            replace H := Option.bind_eq_some_iff.mp H
            obtain ⟨t381, A630, H⟩ := H
            replace H : (if t381 = true then (hinterlandref09_Validate.j1 k1 l0 x3_1 true) else ((hinterlandref09_Out.f ((rd_T69 l0 x3_1).f1) 1000000).bind fun t382 => (if t382 = true then (hinterlandref09_Validate.j1 k1 l0 x3_1 true) else ((hinterlandref09_Out.f ((rd_T69 l0 x3_1).f2) 1000000).bind fun t383 => (hinterlandref09_Validate.j1 k1 l0 x3_1 t383))))) = some r := H
            have A63 := Aside0.mk A630
            clear A630
            refine (Classical.em (t381 = true)).elim (fun c64 => ?a26_) (fun c64 => ?b26_)
            case' a26_ =>
             subst c64
             have H1 : (hinterlandref09_Validate.j1 k1 l0 x3_1 true) = some r := by rw [if_pos rfl] at H; exact H
             clear H
             have H := H1
             clear H1
             have H' := Aside0.mk H
             clear H
            case' b26_ =>
             replace c64 := Bool.eq_false_iff.mpr c64
             subst c64
             have H1 : ((hinterlandref09_Out.f ((rd_T69 l0 x3_1).f1) 1000000).bind fun t382 => (if t382 = true then (hinterlandref09_Validate.j1 k1 l0 x3_1 true) else ((hinterlandref09_Out.f ((rd_T69 l0 x3_1).f2) 1000000).bind fun t383 => (hinterlandref09_Validate.j1 k1 l0 x3_1 t383)))) = some r := by rw [if_neg (show ¬ (false = true) by decide)] at H; exact H
             clear H
             have H := H1
             clear H1
             replace H := Option.bind_eq_some_iff.mp H
             obtain ⟨t382, A670, H⟩ := H
             replace H : (if t382 = true then (hinterlandref09_Validate.j1 k1 l0 x3_1 true) else ((hinterlandref09_Out.f ((rd_T69 l0 x3_1).f2) 1000000).bind fun t383 => (hinterlandref09_Validate.j1 k1 l0 x3_1 t383))) = some r := H
             have A67 := Aside0.mk A670
             clear A670
             refine (Classical.em (t382 = true)).elim (fun c68 => ?a27_) (fun c68 => ?b27_)
             case' a27_ =>
              subst c68
              have H1 : (hinterlandref09_Validate.j1 k1 l0 x3_1 true) = some r := by rw [if_pos rfl] at H; exact H
              clear H
              have H := H1
              clear H1
              have H' := Aside0.mk H
              clear H
             case' b27_ =>
              replace c68 := Bool.eq_false_iff.mpr c68
              subst c68
              have H1 : ((hinterlandref09_Out.f ((rd_T69 l0 x3_1).f2) 1000000).bind fun t383 => (hinterlandref09_Validate.j1 k1 l0 x3_1 t383)) = some r := by rw [if_neg (show ¬ (false = true) by decide)] at H; exact H
              clear H
              have H := H1
              clear H1
              replace H := Option.bind_eq_some_iff.mp H
              obtain ⟨t383, A710, H⟩ := H
              replace H : (hinterlandref09_Validate.j1 k1 l0 x3_1 t383) = some r := H
              have A71 := Aside0.mk A710
              clear A710
              have H' := Aside0.mk H
              clear H
       all_goals (
        first
        | (try go_wp2
           have n0_ : Aside0 (((((((w6.setCell ⟨gb371, 0, none⟩ (.int .i64 ((rd_T69 l0 x3_1).f0))).setCell ⟨gb371, 1, none⟩ (.int .i64 ((rd_T69 l0 x3_1).f1))).setCell ⟨gb371, 2, none⟩ (.int .i64 ((rd_T69 l0 x3_1).f2))).setCell ⟨gb371, 3, none⟩ (.int .i64 ((rd_T69 l0 x3_1).f3))).setCell ⟨gb371, 4, none⟩ (.int .i64 ((rd_T69 l0 x3_1).f4))).setCell ⟨gb371, 5, none⟩ (.int .i64 ((rd_T69 l0 x3_1).f5))).heap[gb371]? = some (.cells #[.int .i64 ((rd_T69 l0 x3_1).f0), .int .i64 ((rd_T69 l0 x3_1).f1), .int .i64 ((rd_T69 l0 x3_1).f2), .int .i64 ((rd_T69 l0 x3_1).f3), .int .i64 ((rd_T69 l0 x3_1).f4), .int .i64 ((rd_T69 l0 x3_1).f5)] 69 (0, 0))) := ⟨by (with_reducible repeat (first | refine blk_drewN ?_ _ | refine blk_drew ?_ | refine blk_alloc ?_ _)); refine blk_put (cs := #[.int .i64 ((rd_T69 l0 x3_1).f0), .int .i64 ((rd_T69 l0 x3_1).f1), .int .i64 ((rd_T69 l0 x3_1).f2), .int .i64 ((rd_T69 l0 x3_1).f3), .int .i64 ((rd_T69 l0 x3_1).f4), .int .i64 0]) ?_ 5 _ rfl; (with_reducible repeat (first | refine blk_drewN ?_ _ | refine blk_drew ?_ | refine blk_alloc ?_ _)); refine blk_put (cs := #[.int .i64 ((rd_T69 l0 x3_1).f0), .int .i64 ((rd_T69 l0 x3_1).f1), .int .i64 ((rd_T69 l0 x3_1).f2), .int .i64 ((rd_T69 l0 x3_1).f3), .int .i64 0, .int .i64 0]) ?_ 4 _ rfl; (with_reducible repeat (first | refine blk_drewN ?_ _ | refine blk_drew ?_ | refine blk_alloc ?_ _)); refine blk_put (cs := #[.int .i64 ((rd_T69 l0 x3_1).f0), .int .i64 ((rd_T69 l0 x3_1).f1), .int .i64 ((rd_T69 l0 x3_1).f2), .int .i64 0, .int .i64 0, .int .i64 0]) ?_ 3 _ rfl; (with_reducible repeat (first | refine blk_drewN ?_ _ | refine blk_drew ?_ | refine blk_alloc ?_ _)); refine blk_put (cs := #[.int .i64 ((rd_T69 l0 x3_1).f0), .int .i64 ((rd_T69 l0 x3_1).f1), .int .i64 0, .int .i64 0, .int .i64 0, .int .i64 0]) ?_ 2 _ rfl; (with_reducible repeat (first | refine blk_drewN ?_ _ | refine blk_drew ?_ | refine blk_alloc ?_ _)); refine blk_put (cs := #[.int .i64 ((rd_T69 l0 x3_1).f0), .int .i64 0, .int .i64 0, .int .i64 0, .int .i64 0, .int .i64 0]) ?_ 1 _ rfl; (with_reducible repeat (first | refine blk_drewN ?_ _ | refine blk_drew ?_ | refine blk_alloc ?_ _)); refine blk_put (cs := #[.int .i64 0, .int .i64 0, .int .i64 0, .int .i64 0, .int .i64 0, .int .i64 0]) ?_ 0 _ rfl; (with_reducible repeat (first | refine blk_drewN ?_ _ | refine blk_drew ?_ | refine blk_alloc ?_ _)); exact BK371.out⟩
           have n1_ : Aside0 (Below w.heap.size w ((((((w6.setCell ⟨gb371, 0, none⟩ (.int .i64 ((rd_T69 l0 x3_1).f0))).setCell ⟨gb371, 1, none⟩ (.int .i64 ((rd_T69 l0 x3_1).f1))).setCell ⟨gb371, 2, none⟩ (.int .i64 ((rd_T69 l0 x3_1).f2))).setCell ⟨gb371, 3, none⟩ (.int .i64 ((rd_T69 l0 x3_1).f3))).setCell ⟨gb371, 4, none⟩ (.int .i64 ((rd_T69 l0 x3_1).f4))).setCell ⟨gb371, 5, none⟩ (.int .i64 ((rd_T69 l0 x3_1).f5)))) := ⟨dL1_ HB GE371⟩
           (try clear BK371)
           (try clear HB)
           generalize ((((((w6.setCell ⟨gb371, 0, none⟩ (.int .i64 ((rd_T69 l0 x3_1).f0))).setCell ⟨gb371, 1, none⟩ (.int .i64 ((rd_T69 l0 x3_1).f1))).setCell ⟨gb371, 2, none⟩ (.int .i64 ((rd_T69 l0 x3_1).f2))).setCell ⟨gb371, 3, none⟩ (.int .i64 ((rd_T69 l0 x3_1).f3))).setCell ⟨gb371, 4, none⟩ (.int .i64 ((rd_T69 l0 x3_1).f4))).setCell ⟨gb371, 5, none⟩ (.int .i64 ((rd_T69 l0 x3_1).f5))) = wz1 at n0_ n1_ ⊢
           have BK371 := n0_
           have HB := n1_
           clear n0_ n1_
           replace BK371 := Aside0.mk (blk_drew BK371.out)
           replace HB := Aside0.mk (below_drew1 HB.out)
           have pz1 : 0 ≤ ((ji9) : Int) := of_decide_eq_true tW_
           have qz1 : (ji9) < (l0.length : Int) := of_decide_eq_true tW_
           obtain ⟨adz1, ez1, hxz1_0, hxz1_1, hxz1_2, hxz1_3, hxz1_4, hxz1_5⟩ := at_T69 HR0.out (ji9) pz1 qz1
           have hwz1_5 := hxz1_5
           have hwz1_4 := hxz1_4
           have hwz1_3 := hxz1_3
           have hwz1_2 := hxz1_2
           have hwz1_1 := hxz1_1
           have hwz1_0 := hxz1_0
           obtain rfl : ad370 = adz1 := (by injection ez1)
           replace hxz1_0 := bc_ HB hxz1_0
           replace hxz1_1 := bc_ HB hxz1_1
           replace hxz1_2 := bc_ HB hxz1_2
           replace hxz1_3 := bc_ HB hxz1_3
           replace hxz1_4 := bc_ HB hxz1_4
           replace hxz1_5 := bc_ HB hxz1_5
           replace pz1 := eq_true pz1
           replace qz1 := eq_true qz1)
        | (try go_wp2
           have n0_ : Aside0 (((((((w6.setCell ⟨gb371, 0, none⟩ (.int .i64 ((rd_T69 l0 x3_1).f0))).setCell ⟨gb371, 1, none⟩ (.int .i64 ((rd_T69 l0 x3_1).f1))).setCell ⟨gb371, 2, none⟩ (.int .i64 ((rd_T69 l0 x3_1).f2))).setCell ⟨gb371, 3, none⟩ (.int .i64 ((rd_T69 l0 x3_1).f3))).setCell ⟨gb371, 4, none⟩ (.int .i64 ((rd_T69 l0 x3_1).f4))).setCell ⟨gb371, 5, none⟩ (.int .i64 ((rd_T69 l0 x3_1).f5))).heap[gb371]? = some (.cells #[.int .i64 ((rd_T69 l0 x3_1).f0), .int .i64 ((rd_T69 l0 x3_1).f1), .int .i64 ((rd_T69 l0 x3_1).f2), .int .i64 ((rd_T69 l0 x3_1).f3), .int .i64 ((rd_T69 l0 x3_1).f4), .int .i64 ((rd_T69 l0 x3_1).f5)] 69 (0, 0))) := ⟨by (with_reducible repeat (first | refine blk_drewN ?_ _ | refine blk_drew ?_ | refine blk_alloc ?_ _)); refine blk_put (cs := #[.int .i64 ((rd_T69 l0 x3_1).f0), .int .i64 ((rd_T69 l0 x3_1).f1), .int .i64 ((rd_T69 l0 x3_1).f2), .int .i64 ((rd_T69 l0 x3_1).f3), .int .i64 ((rd_T69 l0 x3_1).f4), .int .i64 0]) ?_ 5 _ rfl; (with_reducible repeat (first | refine blk_drewN ?_ _ | refine blk_drew ?_ | refine blk_alloc ?_ _)); refine blk_put (cs := #[.int .i64 ((rd_T69 l0 x3_1).f0), .int .i64 ((rd_T69 l0 x3_1).f1), .int .i64 ((rd_T69 l0 x3_1).f2), .int .i64 ((rd_T69 l0 x3_1).f3), .int .i64 0, .int .i64 0]) ?_ 4 _ rfl; (with_reducible repeat (first | refine blk_drewN ?_ _ | refine blk_drew ?_ | refine blk_alloc ?_ _)); refine blk_put (cs := #[.int .i64 ((rd_T69 l0 x3_1).f0), .int .i64 ((rd_T69 l0 x3_1).f1), .int .i64 ((rd_T69 l0 x3_1).f2), .int .i64 0, .int .i64 0, .int .i64 0]) ?_ 3 _ rfl; (with_reducible repeat (first | refine blk_drewN ?_ _ | refine blk_drew ?_ | refine blk_alloc ?_ _)); refine blk_put (cs := #[.int .i64 ((rd_T69 l0 x3_1).f0), .int .i64 ((rd_T69 l0 x3_1).f1), .int .i64 0, .int .i64 0, .int .i64 0, .int .i64 0]) ?_ 2 _ rfl; (with_reducible repeat (first | refine blk_drewN ?_ _ | refine blk_drew ?_ | refine blk_alloc ?_ _)); refine blk_put (cs := #[.int .i64 ((rd_T69 l0 x3_1).f0), .int .i64 0, .int .i64 0, .int .i64 0, .int .i64 0, .int .i64 0]) ?_ 1 _ rfl; (with_reducible repeat (first | refine blk_drewN ?_ _ | refine blk_drew ?_ | refine blk_alloc ?_ _)); refine blk_put (cs := #[.int .i64 0, .int .i64 0, .int .i64 0, .int .i64 0, .int .i64 0, .int .i64 0]) ?_ 0 _ rfl; (with_reducible repeat (first | refine blk_drewN ?_ _ | refine blk_drew ?_ | refine blk_alloc ?_ _)); exact BK371.out⟩
           have n1_ : Aside0 (Below w.heap.size w ((((((w6.setCell ⟨gb371, 0, none⟩ (.int .i64 ((rd_T69 l0 x3_1).f0))).setCell ⟨gb371, 1, none⟩ (.int .i64 ((rd_T69 l0 x3_1).f1))).setCell ⟨gb371, 2, none⟩ (.int .i64 ((rd_T69 l0 x3_1).f2))).setCell ⟨gb371, 3, none⟩ (.int .i64 ((rd_T69 l0 x3_1).f3))).setCell ⟨gb371, 4, none⟩ (.int .i64 ((rd_T69 l0 x3_1).f4))).setCell ⟨gb371, 5, none⟩ (.int .i64 ((rd_T69 l0 x3_1).f5)))) := ⟨dL1_ HB GE371⟩
           generalize ((((((w6.setCell ⟨gb371, 0, none⟩ (.int .i64 ((rd_T69 l0 x3_1).f0))).setCell ⟨gb371, 1, none⟩ (.int .i64 ((rd_T69 l0 x3_1).f1))).setCell ⟨gb371, 2, none⟩ (.int .i64 ((rd_T69 l0 x3_1).f2))).setCell ⟨gb371, 3, none⟩ (.int .i64 ((rd_T69 l0 x3_1).f3))).setCell ⟨gb371, 4, none⟩ (.int .i64 ((rd_T69 l0 x3_1).f4))).setCell ⟨gb371, 5, none⟩ (.int .i64 ((rd_T69 l0 x3_1).f5))) = wz1 at n0_ n1_ ⊢
           have BK371 := n0_
           have HB := n1_
           clear n0_ n1_
           have n0_ := Aside0.mk (blk_drew BK371.out)
           have n1_ := Aside0.mk (below_drew1 HB.out)
           clear BK371
           clear HB
           have BK371 := n0_
           have HB := n1_
           clear n0_ n1_)
        first
        | (refine start_ (n := 47) (S := fun w' => w'.cell? ⟨gb371, 0, none⟩ = some (.int .i64 ((rd_T69 l0 x3_1).f0)) ∧ w'.cell? ⟨gb371, 1, none⟩ = some (.int .i64 ((rd_T69 l0 x3_1).f1)) ∧ w'.cell? ⟨gb371, 2, none⟩ = some (.int .i64 ((rd_T69 l0 x3_1).f2)) ∧ w'.cell? ⟨gb371, 3, none⟩ = some (.int .i64 ((rd_T69 l0 x3_1).f3)) ∧ w'.cell? ⟨gb371, 4, none⟩ = some (.int .i64 ((rd_T69 l0 x3_1).f4)) ∧ w'.cell? ⟨gb371, 5, none⟩ = some (.int .i64 ((rd_T69 l0 x3_1).f5)) ∧ w'.cell? (ad370.add (((ji9)).toNat * 6)) = some (.int .i64 ((rd_T69 l0 (ji9)).f0)) ∧ w'.cell? ⟨(ad370.add (((ji9)).toNat * 6)).block, (ad370.add (((ji9)).toNat * 6)).off + 1, none⟩ = some (.int .i64 ((rd_T69 l0 (ji9)).f1)) ∧ w'.cell? ⟨(ad370.add (((ji9)).toNat * 6)).block, (ad370.add (((ji9)).toNat * 6)).off + 2, none⟩ = some (.int .i64 ((rd_T69 l0 (ji9)).f2)) ∧ w'.cell? ⟨(ad370.add (((ji9)).toNat * 6)).block, (ad370.add (((ji9)).toNat * 6)).off + 3, none⟩ = some (.int .i64 ((rd_T69 l0 (ji9)).f3)) ∧ w'.cell? ⟨(ad370.add (((ji9)).toNat * 6)).block, (ad370.add (((ji9)).toNat * 6)).off + 4, none⟩ = some (.int .i64 ((rd_T69 l0 (ji9)).f4)) ∧ w'.cell? ⟨(ad370.add (((ji9)).toNat * 6)).block, (ad370.add (((ji9)).toNat * 6)).off + 5, none⟩ = some (.int .i64 ((rd_T69 l0 (ji9)).f5))) (ds := []) #[false, false, false, false, false, false, false, false, false, false, false, false, false, false, false, false, false, false, false, false, false, false, false, false, false, false, false, false, false, false, false, false, false, false, false, false, false, false, false, false, false, false, false, false, false, false, false] (by kernel_rfl) rfl rfl ⟨(blk_cell BK371.out 0).trans rfl, (blk_cell BK371.out 1).trans rfl, (blk_cell BK371.out 2).trans rfl, (blk_cell BK371.out 3).trans rfl, (blk_cell BK371.out 4).trans rfl, (blk_cell BK371.out 5).trans rfl, ((HB.out.cell (World.block_lt_of_cell? w _ hwz1_0)).trans hwz1_0), ((HB.out.cell (World.block_lt_of_cell? w _ hwz1_1)).trans hwz1_1), ((HB.out.cell (World.block_lt_of_cell? w _ hwz1_2)).trans hwz1_2), ((HB.out.cell (World.block_lt_of_cell? w _ hwz1_3)).trans hwz1_3), ((HB.out.cell (World.block_lt_of_cell? w _ hwz1_4)).trans hwz1_4), ((HB.out.cell (World.block_lt_of_cell? w _ hwz1_5)).trans hwz1_5)⟩ (fun hHeld => ?_); refine with_tabW hinterlandref09_Validate.tab7 hinterlandref09_Validate.bits7 (fun HT_ HW_ => ?_)
           generalize wz1.drew = wz2 at BK371 HB hxz1_0 hxz1_1 hxz1_2 hxz1_3 hxz1_4 hxz1_5 hHeld ⊢)
        | (refine start_ (n := 47) (S := fun w' => w'.cell? ⟨gb371, 0, none⟩ = some (.int .i64 ((rd_T69 l0 x3_1).f0)) ∧ w'.cell? ⟨gb371, 1, none⟩ = some (.int .i64 ((rd_T69 l0 x3_1).f1)) ∧ w'.cell? ⟨gb371, 2, none⟩ = some (.int .i64 ((rd_T69 l0 x3_1).f2)) ∧ w'.cell? ⟨gb371, 3, none⟩ = some (.int .i64 ((rd_T69 l0 x3_1).f3)) ∧ w'.cell? ⟨gb371, 4, none⟩ = some (.int .i64 ((rd_T69 l0 x3_1).f4)) ∧ w'.cell? ⟨gb371, 5, none⟩ = some (.int .i64 ((rd_T69 l0 x3_1).f5))) (ds := []) #[false, false, false, false, false, false, false, false, false, false, false, false, false, false, false, false, false, false, false, false, false, false, false, false, false, false, false, false, false, false, false, false, false, false, false, false, false, false, false, false, false, false, false, false, false, false, false] (by kernel_rfl) rfl rfl ⟨(blk_cell BK371.out 0).trans rfl, (blk_cell BK371.out 1).trans rfl, (blk_cell BK371.out 2).trans rfl, (blk_cell BK371.out 3).trans rfl, (blk_cell BK371.out 4).trans rfl, (blk_cell BK371.out 5).trans rfl⟩ (fun hHeld => ?_); refine with_tabW hinterlandref09_Validate.tab7 hinterlandref09_Validate.bits7 (fun HT_ HW_ => ?_)
           generalize wz1.drew = wz2 at BK371 HB hHeld ⊢)
        refine pure_ (i := 0) (N := some 18) (v := ?_) (a' := ?_) (bA 1 47) rfl rfl (any_of HT_.out (by kernel_rfl)) (fun _ _ _ h => h) (Or.inl ⟨by rfl, ?_⟩) ?_ ?_; rotate_left; (intro w'; go_simp; with_reducible rfl); rotate_left; (simp only [Act.put, sI_, s0_, sS_, i64_w, i32_w]; rfl)
        refine pure_ (i := 1) (N := some 19) (v := ?_) (a' := ?_) (bA 2 47) rfl rfl (any_of HT_.out (by kernel_rfl)) (fun _ _ _ h => h) (Or.inl ⟨by rfl, ?_⟩) ?_ ?_; rotate_left; (intro w'; go_simp; with_reducible rfl); rotate_left; (simp only [Act.put, sI_, s0_, sS_, i64_w, i32_w]; rfl)
        refine pure_ (i := 2) (N := some 20) (v := ?_) (a' := ?_) (bA 3 47) rfl rfl (any_of HT_.out (by kernel_rfl)) (fun _ _ _ h => h) (Or.inl ⟨by rfl, ?_⟩) ?_ ?_; rotate_left; (intro w'; go_simp; with_reducible rfl); rotate_left; (simp only [Act.put, sI_, s0_, sS_, i64_w, i32_w]; rfl)
        first
        | (refine pure_ (i := 3) (N := some 21) (v := ?_) (a' := ?_) (bA 4 47) rfl rfl (any_of HT_.out (by kernel_rfl)) (fun _ _ _ h => h) (Or.inl ⟨by rfl, ?_⟩) ?_ ?_; rotate_left; (intro w'; go_simp; with_reducible rfl); rotate_left; (simp only [Act.put, sI_, s0_, sS_, i64_w, i32_w]; rfl))
        | (refine pure_ (i := 3) (N := some 21) (v := undef) (a' := ?_) (bA 4 47) rfl rfl (any_of HT_.out (by kernel_rfl)) (fun _ _ _ h => h) (Or.inr ⟨by rfl, rfl⟩) ?_ ?_; rotate_left; (simp only [Act.put, sI_, s0_, sS_, i64_w, i32_w]; rfl))
        first
        | (refine pure_ (i := 4) (N := some 22) (v := ?_) (a' := ?_) (bA 5 47) rfl rfl (any_of HT_.out (by kernel_rfl)) (fun _ _ _ h => h) (Or.inl ⟨by rfl, ?_⟩) ?_ ?_; rotate_left; (intro w'; go_simp; with_reducible rfl); rotate_left; (simp only [Act.put, sI_, s0_, sS_, i64_w, i32_w]; rfl))
        | (refine pure_ (i := 4) (N := some 22) (v := undef) (a' := ?_) (bA 5 47) rfl rfl (any_of HT_.out (by kernel_rfl)) (fun _ _ _ h => h) (Or.inr ⟨by rfl, rfl⟩) ?_ ?_; rotate_left; (simp only [Act.put, sI_, s0_, sS_, i64_w, i32_w]; rfl))
        first
        | (refine pure_ (i := 5) (N := some 23) (v := ?_) (a' := ?_) (bA 6 47) rfl rfl (any_of HT_.out (by kernel_rfl)) (fun _ _ _ h => h) (Or.inl ⟨by rfl, ?_⟩) ?_ ?_; rotate_left; (intro w'; go_simp; with_reducible rfl); rotate_left; (simp only [Act.put, sI_, s0_, sS_, i64_w, i32_w]; rfl))
        | (refine pure_ (i := 5) (N := some 23) (v := undef) (a' := ?_) (bA 6 47) rfl rfl (any_of HT_.out (by kernel_rfl)) (fun _ _ _ h => h) (Or.inr ⟨by rfl, rfl⟩) ?_ ?_; rotate_left; (simp only [Act.put, sI_, s0_, sS_, i64_w, i32_w]; rfl))
        first
        | (refine pure_ (i := 6) (N := some 24) (v := ?_) (a' := ?_) (bA 7 47) rfl rfl (any_of HT_.out (by kernel_rfl)) (fun _ _ _ h => h) (Or.inl ⟨by rfl, ?_⟩) ?_ ?_; rotate_left; (intro w'; go_simp; with_reducible rfl); rotate_left; (simp only [Act.put, sI_, s0_, sS_, i64_w, i32_w]; rfl))
        | (refine pure_ (i := 6) (N := some 24) (v := undef) (a' := ?_) (bA 7 47) rfl rfl (any_of HT_.out (by kernel_rfl)) (fun _ _ _ h => h) (Or.inr ⟨by rfl, rfl⟩) ?_ ?_; rotate_left; (simp only [Act.put, sI_, s0_, sS_, i64_w, i32_w]; rfl))
        first
        | (refine take_ (i := 7) (N := some 25) (v := ?_) (a' := ?_) (bA 8 47) rfl rfl (take_ofW HT_.out HW_.out (by kernel_rfl)) (fun _ _ _ h => h) (Or.inl ⟨by rfl, ?_⟩) hHeld ?_ ?_; rotate_left; (rintro w' ⟨sz1, sz2, sz3, sz4, sz5, sz6, sz7, sz8, sz9, sz10, sz11, sz12⟩; go_simp; with_reducible rfl); rotate_left; (simp only [Act.put, sI_, s0_, sS_, i64_w, i32_w]; rfl))
        | (refine pure_ (i := 7) (N := some 25) (v := undef) (a' := ?_) (bA 8 47) rfl rfl (any_of HT_.out (by kernel_rfl)) (fun _ _ _ h => h) (Or.inr ⟨by rfl, rfl⟩) ?_ ?_; rotate_left; (simp only [Act.put, sI_, s0_, sS_, i64_w, i32_w]; rfl))
        first
        | (refine take_ (i := 8) (N := some 26) (v := ?_) (a' := ?_) (bA 9 47) rfl rfl (take_ofW HT_.out HW_.out (by kernel_rfl)) (fun _ _ _ h => h) (Or.inl ⟨by rfl, ?_⟩) hHeld ?_ ?_; rotate_left; (rintro w' ⟨sz1, sz2, sz3, sz4, sz5, sz6, sz7, sz8, sz9, sz10, sz11, sz12⟩; go_simp; with_reducible rfl); rotate_left; (simp only [Act.put, sI_, s0_, sS_, i64_w, i32_w]; rfl))
        | (refine pure_ (i := 8) (N := some 26) (v := undef) (a' := ?_) (bA 9 47) rfl rfl (any_of HT_.out (by kernel_rfl)) (fun _ _ _ h => h) (Or.inr ⟨by rfl, rfl⟩) ?_ ?_; rotate_left; (simp only [Act.put, sI_, s0_, sS_, i64_w, i32_w]; rfl))
        first
        | (refine one_ (i := 9) (N := some 27) (bA 10 47) rfl rfl (one_of HT_.out (by kernel_rfl)) (by decide) (fun K hK => ?_)
           refine goes_ Try.func62 (by kernel_rfl) rfl #[.agg #[.int .i64 ((rd_T69 l0 (ji9)).f0), .int .i64 ((rd_T69 l0 (ji9)).f1), .int .i64 ((rd_T69 l0 (ji9)).f2), .int .i64 ((rd_T69 l0 (ji9)).f3), .int .i64 ((rd_T69 l0 (ji9)).f4), .int .i64 ((rd_T69 l0 (ji9)).f5)], .agg #[.int .i64 ((rd_T69 l0 x3_1).f0), .int .i64 ((rd_T69 l0 x3_1).f1), .int .i64 ((rd_T69 l0 x3_1).f2), .int .i64 ((rd_T69 l0 x3_1).f3), .int .i64 ((rd_T69 l0 x3_1).f4), .int .i64 ((rd_T69 l0 x3_1).f5)]] (by rfl) rfl rfl (by (try simp only [List.map_toArray, List.map_cons, List.map_nil]); first | done | (simp only [hji9]; rfl) | rfl | (simp only [List.length_drop, List.length_take]; rfl)) ?_
           with_reducible refine (hinterlandref09_less.calls ((rd_T69 l0 (ji9)).f0) ((rd_T69 l0 (ji9)).f1) ((rd_T69 l0 (ji9)).f2) ((rd_T69 l0 (ji9)).f3) ((rd_T69 l0 (ji9)).f4) ((rd_T69 l0 (ji9)).f5) ((rd_T69 l0 x3_1).f0) ((rd_T69 l0 x3_1).f1) ((rd_T69 l0 x3_1).f2) ((rd_T69 l0 x3_1).f3) ((rd_T69 l0 x3_1).f4) ((rd_T69 l0 x3_1).f5) _ _ A12.out).mono ?_
           rintro e wz3 ⟨rfl, hb⟩
           refine ⟨_, rfl, ?_⟩
           replace BK371 := Aside0.mk (blk_below (g := gb371) (o := .cells #[.int .i64 ((rd_T69 l0 x3_1).f0), .int .i64 ((rd_T69 l0 x3_1).f1), .int .i64 ((rd_T69 l0 x3_1).f2), .int .i64 ((rd_T69 l0 x3_1).f3), .int .i64 ((rd_T69 l0 x3_1).f4), .int .i64 ((rd_T69 l0 x3_1).f5)] 69 (0, 0)) (dB_ BK371) hb)
           replace HB := Aside0.mk (below_step (dL1_ HB GE371) hb)
           (try clear hb)
           refine hK.out _ _ ⟨(blk_cell BK371.out 0).trans rfl, (blk_cell BK371.out 1).trans rfl, (blk_cell BK371.out 2).trans rfl, (blk_cell BK371.out 3).trans rfl, (blk_cell BK371.out 4).trans rfl, (blk_cell BK371.out 5).trans rfl, ((HB.out.cell (World.block_lt_of_cell? w _ hwz1_0)).trans hwz1_0), ((HB.out.cell (World.block_lt_of_cell? w _ hwz1_1)).trans hwz1_1), ((HB.out.cell (World.block_lt_of_cell? w _ hwz1_2)).trans hwz1_2), ((HB.out.cell (World.block_lt_of_cell? w _ hwz1_3)).trans hwz1_3), ((HB.out.cell (World.block_lt_of_cell? w _ hwz1_4)).trans hwz1_4), ((HB.out.cell (World.block_lt_of_cell? w _ hwz1_5)).trans hwz1_5)⟩ (fun hHeld => ?_)
           clear hK K
           refine norm_ (a' := ?_) ?_ ?_
           rotate_left
           ·show Act.put _ (some 27) _ = _
            simp only [Act.put, sI_, s0_, sS_, i64_w, i32_w]
            rfl)
        | (refine pure_ (i := 9) (N := some 27) (v := undef) (a' := ?_) (bA 10 47) rfl rfl (any_of HT_.out (by kernel_rfl)) (fun _ _ _ h => h) (Or.inr ⟨by rfl, rfl⟩) ?_ ?_; rotate_left; (simp only [Act.put, sI_, s0_, sS_, i64_w, i32_w]; rfl))
        first
        | (refine pure_ (i := 10) (N := some 28) (v := ?_) (a' := ?_) (bA 11 47) rfl rfl (any_of HT_.out (by kernel_rfl)) (fun _ _ _ h => h) (Or.inl ⟨by rfl, ?_⟩) ?_ ?_; rotate_left; (intro w'; go_simp; with_reducible rfl); rotate_left; (simp only [Act.put, sI_, s0_, sS_, i64_w, i32_w]; rfl))
        | (refine pure_ (i := 10) (N := some 28) (v := undef) (a' := ?_) (bA 11 47) rfl rfl (any_of HT_.out (by kernel_rfl)) (fun _ _ _ h => h) (Or.inr ⟨by rfl, rfl⟩) ?_ ?_; rotate_left; (simp only [Act.put, sI_, s0_, sS_, i64_w, i32_w]; rfl))
        refine pure_ (i := 11) (N := some 29) (v := ?_) (a' := ?_) (bA 12 47) rfl rfl (any_of HT_.out (by kernel_rfl)) (fun _ _ _ h => h) (Or.inl ⟨by rfl, ?_⟩) ?_ ?_; rotate_left; (intro w'; go_simp; with_reducible rfl); rotate_left; (simp only [Act.put, sI_, s0_, sS_, i64_w, i32_w]; rfl)
        refine pure_ (i := 12) (N := some 30) (v := ?_) (a' := ?_) (bA 13 47) rfl rfl (any_of HT_.out (by kernel_rfl)) (fun _ _ _ h => h) (Or.inl ⟨by rfl, ?_⟩) ?_ ?_; rotate_left; (intro w'; go_simp; with_reducible rfl); rotate_left; (simp only [Act.put, sI_, s0_, sS_, i64_w, i32_w]; rfl)
        first
        | (refine pure_ (i := 13) (N := some 31) (v := ?_) (a' := ?_) (bA 14 47) rfl rfl (any_of HT_.out (by kernel_rfl)) (fun _ _ _ h => h) (Or.inl ⟨by rfl, ?_⟩) ?_ ?_; rotate_left; (intro w'; go_simp; with_reducible rfl); rotate_left; (simp only [Act.put, sI_, s0_, sS_, i64_w, i32_w]; rfl))
        | (refine pure_ (i := 13) (N := some 31) (v := undef) (a' := ?_) (bA 14 47) rfl rfl (any_of HT_.out (by kernel_rfl)) (fun _ _ _ h => h) (Or.inr ⟨by rfl, rfl⟩) ?_ ?_; rotate_left; (simp only [Act.put, sI_, s0_, sS_, i64_w, i32_w]; rfl))
        first
        | (refine take_ (i := 14) (N := some 32) (v := ?_) (a' := ?_) (bA 15 47) rfl rfl (take_ofW HT_.out HW_.out (by kernel_rfl)) (fun _ _ _ h => h) (Or.inl ⟨by rfl, ?_⟩) hHeld ?_ ?_; rotate_left; (rintro w' ⟨sz1, sz2, sz3, sz4, sz5, sz6, sz7, sz8, sz9, sz10, sz11, sz12⟩; go_simp; with_reducible rfl); rotate_left; (simp only [Act.put, sI_, s0_, sS_, i64_w, i32_w]; rfl))
        | (refine take_ (i := 14) (N := some 32) (v := ?_) (a' := ?_) (bA 15 47) rfl rfl (take_ofW HT_.out HW_.out (by kernel_rfl)) (fun _ _ _ h => h) (Or.inl ⟨by rfl, ?_⟩) hHeld ?_ ?_; rotate_left; (rintro w' ⟨sz1, sz2, sz3, sz4, sz5, sz6⟩; go_simp; with_reducible rfl); rotate_left; (simp only [Act.put, sI_, s0_, sS_, i64_w, i32_w]; rfl))
        | (refine pure_ (i := 14) (N := some 32) (v := undef) (a' := ?_) (bA 15 47) rfl rfl (any_of HT_.out (by kernel_rfl)) (fun _ _ _ h => h) (Or.inr ⟨by rfl, rfl⟩) ?_ ?_; rotate_left; (simp only [Act.put, sI_, s0_, sS_, i64_w, i32_w]; rfl))
        first
        | (refine pure_ (i := 15) (N := some 33) (v := ?_) (a' := ?_) (bA 16 47) rfl rfl (any_of HT_.out (by kernel_rfl)) (fun _ _ _ h => h) (Or.inl ⟨by rfl, ?_⟩) ?_ ?_; rotate_left; (intro w'; go_simp; with_reducible rfl); rotate_left; (simp only [Act.put, sI_, s0_, sS_, i64_w, i32_w]; rfl))
        | (refine pure_ (i := 15) (N := some 33) (v := undef) (a' := ?_) (bA 16 47) rfl rfl (any_of HT_.out (by kernel_rfl)) (fun _ _ _ h => h) (Or.inr ⟨by rfl, rfl⟩) ?_ ?_; rotate_left; (simp only [Act.put, sI_, s0_, sS_, i64_w, i32_w]; rfl))
        refine pure_ (i := 16) (N := some 34) (v := ?_) (a' := ?_) (bA 17 47) rfl rfl (any_of HT_.out (by kernel_rfl)) (fun _ _ _ h => h) (Or.inl ⟨by rfl, ?_⟩) ?_ ?_; rotate_left; (intro w'; go_simp; with_reducible rfl); rotate_left; (simp only [Act.put, sI_, s0_, sS_, i64_w, i32_w]; rfl)
        refine pure_ (i := 17) (N := some 35) (v := ?_) (a' := ?_) (bA 18 47) rfl rfl (any_of HT_.out (by kernel_rfl)) (fun _ _ _ h => h) (Or.inl ⟨by rfl, ?_⟩) ?_ ?_; rotate_left; (intro w'; go_simp; with_reducible rfl); rotate_left; (simp only [Act.put, sI_, s0_, sS_, i64_w, i32_w]; rfl)
        first
        | (refine pure_ (i := 18) (N := some 36) (v := ?_) (a' := ?_) (bA 19 47) rfl rfl (any_of HT_.out (by kernel_rfl)) (fun _ _ _ h => h) (Or.inl ⟨by rfl, ?_⟩) ?_ ?_; rotate_left; (intro w'; go_simp; with_reducible rfl); rotate_left; (simp only [Act.put, sI_, s0_, sS_, i64_w, i32_w]; rfl))
        | (refine pure_ (i := 18) (N := some 36) (v := undef) (a' := ?_) (bA 19 47) rfl rfl (any_of HT_.out (by kernel_rfl)) (fun _ _ _ h => h) (Or.inr ⟨by rfl, rfl⟩) ?_ ?_; rotate_left; (simp only [Act.put, sI_, s0_, sS_, i64_w, i32_w]; rfl))
        first
        | (refine take_ (i := 19) (N := some 37) (v := ?_) (a' := ?_) (bA 20 47) rfl rfl (take_ofW HT_.out HW_.out (by kernel_rfl)) (fun _ _ _ h => h) (Or.inl ⟨by rfl, ?_⟩) hHeld ?_ ?_; rotate_left; (rintro w' ⟨sz1, sz2, sz3, sz4, sz5, sz6, sz7, sz8, sz9, sz10, sz11, sz12⟩; go_simp; with_reducible rfl); rotate_left; (simp only [Act.put, sI_, s0_, sS_, i64_w, i32_w]; rfl))
        | (refine take_ (i := 19) (N := some 37) (v := ?_) (a' := ?_) (bA 20 47) rfl rfl (take_ofW HT_.out HW_.out (by kernel_rfl)) (fun _ _ _ h => h) (Or.inl ⟨by rfl, ?_⟩) hHeld ?_ ?_; rotate_left; (rintro w' ⟨sz1, sz2, sz3, sz4, sz5, sz6⟩; go_simp; with_reducible rfl); rotate_left; (simp only [Act.put, sI_, s0_, sS_, i64_w, i32_w]; rfl))
        | (refine pure_ (i := 19) (N := some 37) (v := undef) (a' := ?_) (bA 20 47) rfl rfl (any_of HT_.out (by kernel_rfl)) (fun _ _ _ h => h) (Or.inr ⟨by rfl, rfl⟩) ?_ ?_; rotate_left; (simp only [Act.put, sI_, s0_, sS_, i64_w, i32_w]; rfl))
        first
        | (refine pure_ (i := 20) (N := some 38) (v := ?_) (a' := ?_) (bA 21 47) rfl rfl (any_of HT_.out (by kernel_rfl)) (fun _ _ _ h => h) (Or.inl ⟨by rfl, ?_⟩) ?_ ?_; rotate_left; (intro w'; go_simp; with_reducible rfl); rotate_left; (simp only [Act.put, sI_, s0_, sS_, i64_w, i32_w]; rfl))
        | (refine pure_ (i := 20) (N := some 38) (v := undef) (a' := ?_) (bA 21 47) rfl rfl (any_of HT_.out (by kernel_rfl)) (fun _ _ _ h => h) (Or.inr ⟨by rfl, rfl⟩) ?_ ?_; rotate_left; (simp only [Act.put, sI_, s0_, sS_, i64_w, i32_w]; rfl))
        refine pure_ (i := 21) (N := some 39) (v := ?_) (a' := ?_) (bA 22 47) rfl rfl (any_of HT_.out (by kernel_rfl)) (fun _ _ _ h => h) (Or.inl ⟨by rfl, ?_⟩) ?_ ?_; rotate_left; (intro w'; go_simp; with_reducible rfl); rotate_left; (simp only [Act.put, sI_, s0_, sS_, i64_w, i32_w]; rfl)
        refine pure_ (i := 22) (N := some 40) (v := ?_) (a' := ?_) (bA 23 47) rfl rfl (any_of HT_.out (by kernel_rfl)) (fun _ _ _ h => h) (Or.inl ⟨by rfl, ?_⟩) ?_ ?_; rotate_left; (intro w'; go_simp; with_reducible rfl); rotate_left; (simp only [Act.put, sI_, s0_, sS_, i64_w, i32_w]; rfl)
        first
        | (refine pure_ (i := 23) (N := some 41) (v := ?_) (a' := ?_) (bA 24 47) rfl rfl (any_of HT_.out (by kernel_rfl)) (fun _ _ _ h => h) (Or.inl ⟨by rfl, ?_⟩) ?_ ?_; rotate_left; (intro w'; go_simp; with_reducible rfl); rotate_left; (simp only [Act.put, sI_, s0_, sS_, i64_w, i32_w]; rfl))
        | (refine pure_ (i := 23) (N := some 41) (v := undef) (a' := ?_) (bA 24 47) rfl rfl (any_of HT_.out (by kernel_rfl)) (fun _ _ _ h => h) (Or.inr ⟨by rfl, rfl⟩) ?_ ?_; rotate_left; (simp only [Act.put, sI_, s0_, sS_, i64_w, i32_w]; rfl))
        first
        | (refine take_ (i := 24) (N := some 42) (v := ?_) (a' := ?_) (bA 25 47) rfl rfl (take_ofW HT_.out HW_.out (by kernel_rfl)) (fun _ _ _ h => h) (Or.inl ⟨by rfl, ?_⟩) hHeld ?_ ?_; rotate_left; (rintro w' ⟨sz1, sz2, sz3, sz4, sz5, sz6, sz7, sz8, sz9, sz10, sz11, sz12⟩; go_simp; with_reducible rfl); rotate_left; (simp only [Act.put, sI_, s0_, sS_, i64_w, i32_w]; rfl))
        | (refine take_ (i := 24) (N := some 42) (v := ?_) (a' := ?_) (bA 25 47) rfl rfl (take_ofW HT_.out HW_.out (by kernel_rfl)) (fun _ _ _ h => h) (Or.inl ⟨by rfl, ?_⟩) hHeld ?_ ?_; rotate_left; (rintro w' ⟨sz1, sz2, sz3, sz4, sz5, sz6⟩; go_simp; with_reducible rfl); rotate_left; (simp only [Act.put, sI_, s0_, sS_, i64_w, i32_w]; rfl))
        | (refine pure_ (i := 24) (N := some 42) (v := undef) (a' := ?_) (bA 25 47) rfl rfl (any_of HT_.out (by kernel_rfl)) (fun _ _ _ h => h) (Or.inr ⟨by rfl, rfl⟩) ?_ ?_; rotate_left; (simp only [Act.put, sI_, s0_, sS_, i64_w, i32_w]; rfl))
        first
        | (refine one_ (i := 25) (N := some 43) (bA 26 47) rfl rfl (one_of HT_.out (by kernel_rfl)) (by decide) (fun K hK => ?_)
           refine goes_ Try.func63 (by kernel_rfl) rfl #[.int .i64 ((rd_T69 l0 x3_1).f3), .int .i64 255] (by rfl) rfl rfl tA_ ?_
           with_reducible refine (hinterlandref09_Out.calls ((rd_T69 l0 x3_1).f3) 255 _ _ A22.out).mono ?_
           rintro e w' ⟨rfl, ⟨nd, rfl⟩⟩
           refine ⟨_, rfl, ?_⟩
           refine hK.out _ _ ⟨(blk_cell BK371.out 0).trans rfl, (blk_cell BK371.out 1).trans rfl, (blk_cell BK371.out 2).trans rfl, (blk_cell BK371.out 3).trans rfl, (blk_cell BK371.out 4).trans rfl, (blk_cell BK371.out 5).trans rfl, ((HB.out.cell (World.block_lt_of_cell? w _ hwz1_0)).trans hwz1_0), ((HB.out.cell (World.block_lt_of_cell? w _ hwz1_1)).trans hwz1_1), ((HB.out.cell (World.block_lt_of_cell? w _ hwz1_2)).trans hwz1_2), ((HB.out.cell (World.block_lt_of_cell? w _ hwz1_3)).trans hwz1_3), ((HB.out.cell (World.block_lt_of_cell? w _ hwz1_4)).trans hwz1_4), ((HB.out.cell (World.block_lt_of_cell? w _ hwz1_5)).trans hwz1_5)⟩ (fun hHeld => ?_)
           clear hK K
           refine norm_ (a' := ?_) ?_ ?_
           rotate_left
           ·show Act.put _ (some 43) _ = _
            simp only [Act.put, sI_, s0_, sS_, i64_w, i32_w]
            rfl)
        | (refine one_ (i := 25) (N := some 43) (bA 26 47) rfl rfl (one_of HT_.out (by kernel_rfl)) (by decide) (fun K hK => ?_)
           refine goes_ Try.func63 (by kernel_rfl) rfl #[.int .i64 ((rd_T69 l0 x3_1).f3), .int .i64 255] (by rfl) rfl rfl tA_ ?_
           with_reducible refine (hinterlandref09_Out.calls ((rd_T69 l0 x3_1).f3) 255 _ _ A55.out).mono ?_
           rintro e w' ⟨rfl, ⟨nd, rfl⟩⟩
           refine ⟨_, rfl, ?_⟩
           refine hK.out _ _ ⟨(blk_cell BK371.out 0).trans rfl, (blk_cell BK371.out 1).trans rfl, (blk_cell BK371.out 2).trans rfl, (blk_cell BK371.out 3).trans rfl, (blk_cell BK371.out 4).trans rfl, (blk_cell BK371.out 5).trans rfl⟩ (fun hHeld => ?_)
           clear hK K
           refine norm_ (a' := ?_) ?_ ?_
           rotate_left
           ·show Act.put _ (some 43) _ = _
            simp only [Act.put, sI_, s0_, sS_, i64_w, i32_w]
            rfl)
        | (refine pure_ (i := 25) (N := some 43) (v := undef) (a' := ?_) (bA 26 47) rfl rfl (any_of HT_.out (by kernel_rfl)) (fun _ _ _ h => h) (Or.inr ⟨by rfl, rfl⟩) ?_ ?_; rotate_left; (simp only [Act.put, sI_, s0_, sS_, i64_w, i32_w]; rfl))
        refine pure_ (i := 26) (N := some 44) (v := ?_) (a' := ?_) (bA 27 47) rfl rfl (any_of HT_.out (by kernel_rfl)) (fun _ _ _ h => h) (Or.inl ⟨by rfl, ?_⟩) ?_ ?_; rotate_left; (intro w'; go_simp; with_reducible rfl); rotate_left; (simp only [Act.put, sI_, s0_, sS_, i64_w, i32_w]; rfl)
        refine pure_ (i := 27) (N := some 45) (v := ?_) (a' := ?_) (bA 28 47) rfl rfl (any_of HT_.out (by kernel_rfl)) (fun _ _ _ h => h) (Or.inl ⟨by rfl, ?_⟩) ?_ ?_; rotate_left; (intro w'; go_simp; with_reducible rfl); rotate_left; (simp only [Act.put, sI_, s0_, sS_, i64_w, i32_w]; rfl)
        first
        | (refine pure_ (i := 28) (N := some 46) (v := ?_) (a' := ?_) (bA 29 47) rfl rfl (any_of HT_.out (by kernel_rfl)) (fun _ _ _ h => h) (Or.inl ⟨by rfl, ?_⟩) ?_ ?_; rotate_left; (intro w'; go_simp; with_reducible rfl); rotate_left; (simp only [Act.put, sI_, s0_, sS_, i64_w, i32_w]; rfl))
        | (refine pure_ (i := 28) (N := some 46) (v := undef) (a' := ?_) (bA 29 47) rfl rfl (any_of HT_.out (by kernel_rfl)) (fun _ _ _ h => h) (Or.inr ⟨by rfl, rfl⟩) ?_ ?_; rotate_left; (simp only [Act.put, sI_, s0_, sS_, i64_w, i32_w]; rfl))
        first
        | (refine take_ (i := 29) (N := some 47) (v := ?_) (a' := ?_) (bA 30 47) rfl rfl (take_ofW HT_.out HW_.out (by kernel_rfl)) (fun _ _ _ h => h) (Or.inl ⟨by rfl, ?_⟩) hHeld ?_ ?_; rotate_left; (rintro w' ⟨sz1, sz2, sz3, sz4, sz5, sz6, sz7, sz8, sz9, sz10, sz11, sz12⟩; go_simp; with_reducible rfl); rotate_left; (simp only [Act.put, sI_, s0_, sS_, i64_w, i32_w]; rfl))
        | (refine take_ (i := 29) (N := some 47) (v := ?_) (a' := ?_) (bA 30 47) rfl rfl (take_ofW HT_.out HW_.out (by kernel_rfl)) (fun _ _ _ h => h) (Or.inl ⟨by rfl, ?_⟩) hHeld ?_ ?_; rotate_left; (rintro w' ⟨sz1, sz2, sz3, sz4, sz5, sz6⟩; go_simp; with_reducible rfl); rotate_left; (simp only [Act.put, sI_, s0_, sS_, i64_w, i32_w]; rfl))
        | (refine pure_ (i := 29) (N := some 47) (v := undef) (a' := ?_) (bA 30 47) rfl rfl (any_of HT_.out (by kernel_rfl)) (fun _ _ _ h => h) (Or.inr ⟨by rfl, rfl⟩) ?_ ?_; rotate_left; (simp only [Act.put, sI_, s0_, sS_, i64_w, i32_w]; rfl))
        first
        | (refine one_ (i := 30) (N := some 48) (bA 31 47) rfl rfl (one_of HT_.out (by kernel_rfl)) (by decide) (fun K hK => ?_)
           refine goes_ Try.func63 (by kernel_rfl) rfl #[.int .i64 ((rd_T69 l0 x3_1).f5), .int .i64 1000000000000] (by rfl) rfl rfl tA_ ?_
           with_reducible refine (hinterlandref09_Out.calls ((rd_T69 l0 x3_1).f5) 1000000000000 _ _ A27.out).mono ?_
           rintro e w' ⟨rfl, ⟨nd, rfl⟩⟩
           refine ⟨_, rfl, ?_⟩
           refine hK.out _ _ ⟨(blk_cell BK371.out 0).trans rfl, (blk_cell BK371.out 1).trans rfl, (blk_cell BK371.out 2).trans rfl, (blk_cell BK371.out 3).trans rfl, (blk_cell BK371.out 4).trans rfl, (blk_cell BK371.out 5).trans rfl, ((HB.out.cell (World.block_lt_of_cell? w _ hwz1_0)).trans hwz1_0), ((HB.out.cell (World.block_lt_of_cell? w _ hwz1_1)).trans hwz1_1), ((HB.out.cell (World.block_lt_of_cell? w _ hwz1_2)).trans hwz1_2), ((HB.out.cell (World.block_lt_of_cell? w _ hwz1_3)).trans hwz1_3), ((HB.out.cell (World.block_lt_of_cell? w _ hwz1_4)).trans hwz1_4), ((HB.out.cell (World.block_lt_of_cell? w _ hwz1_5)).trans hwz1_5)⟩ (fun hHeld => ?_)
           clear hK K
           refine norm_ (a' := ?_) ?_ ?_
           rotate_left
           ·show Act.put _ (some 48) _ = _
            simp only [Act.put, sI_, s0_, sS_, i64_w, i32_w]
            rfl)
        | (refine one_ (i := 30) (N := some 48) (bA 31 47) rfl rfl (one_of HT_.out (by kernel_rfl)) (by decide) (fun K hK => ?_)
           refine goes_ Try.func63 (by kernel_rfl) rfl #[.int .i64 ((rd_T69 l0 x3_1).f5), .int .i64 1000000000000] (by rfl) rfl rfl tA_ ?_
           with_reducible refine (hinterlandref09_Out.calls ((rd_T69 l0 x3_1).f5) 1000000000000 _ _ A59.out).mono ?_
           rintro e w' ⟨rfl, ⟨nd, rfl⟩⟩
           refine ⟨_, rfl, ?_⟩
           refine hK.out _ _ ⟨(blk_cell BK371.out 0).trans rfl, (blk_cell BK371.out 1).trans rfl, (blk_cell BK371.out 2).trans rfl, (blk_cell BK371.out 3).trans rfl, (blk_cell BK371.out 4).trans rfl, (blk_cell BK371.out 5).trans rfl⟩ (fun hHeld => ?_)
           clear hK K
           refine norm_ (a' := ?_) ?_ ?_
           rotate_left
           ·show Act.put _ (some 48) _ = _
            simp only [Act.put, sI_, s0_, sS_, i64_w, i32_w]
            rfl)
        | (refine pure_ (i := 30) (N := some 48) (v := undef) (a' := ?_) (bA 31 47) rfl rfl (any_of HT_.out (by kernel_rfl)) (fun _ _ _ h => h) (Or.inr ⟨by rfl, rfl⟩) ?_ ?_; rotate_left; (simp only [Act.put, sI_, s0_, sS_, i64_w, i32_w]; rfl))
        refine pure_ (i := 31) (N := some 49) (v := ?_) (a' := ?_) (bA 32 47) rfl rfl (any_of HT_.out (by kernel_rfl)) (fun _ _ _ h => h) (Or.inl ⟨by rfl, ?_⟩) ?_ ?_; rotate_left; (intro w'; go_simp; with_reducible rfl); rotate_left; (simp only [Act.put, sI_, s0_, sS_, i64_w, i32_w]; rfl)
        refine pure_ (i := 32) (N := some 50) (v := ?_) (a' := ?_) (bA 33 47) rfl rfl (any_of HT_.out (by kernel_rfl)) (fun _ _ _ h => h) (Or.inl ⟨by rfl, ?_⟩) ?_ ?_; rotate_left; (intro w'; go_simp; with_reducible rfl); rotate_left; (simp only [Act.put, sI_, s0_, sS_, i64_w, i32_w]; rfl)
        first
        | (refine pure_ (i := 33) (N := some 51) (v := ?_) (a' := ?_) (bA 34 47) rfl rfl (any_of HT_.out (by kernel_rfl)) (fun _ _ _ h => h) (Or.inl ⟨by rfl, ?_⟩) ?_ ?_; rotate_left; (intro w'; go_simp; with_reducible rfl); rotate_left; (simp only [Act.put, sI_, s0_, sS_, i64_w, i32_w]; rfl))
        | (refine pure_ (i := 33) (N := some 51) (v := undef) (a' := ?_) (bA 34 47) rfl rfl (any_of HT_.out (by kernel_rfl)) (fun _ _ _ h => h) (Or.inr ⟨by rfl, rfl⟩) ?_ ?_; rotate_left; (simp only [Act.put, sI_, s0_, sS_, i64_w, i32_w]; rfl))
        first
        | (refine take_ (i := 34) (N := some 52) (v := ?_) (a' := ?_) (bA 35 47) rfl rfl (take_ofW HT_.out HW_.out (by kernel_rfl)) (fun _ _ _ h => h) (Or.inl ⟨by rfl, ?_⟩) hHeld ?_ ?_; rotate_left; (rintro w' ⟨sz1, sz2, sz3, sz4, sz5, sz6, sz7, sz8, sz9, sz10, sz11, sz12⟩; go_simp; with_reducible rfl); rotate_left; (simp only [Act.put, sI_, s0_, sS_, i64_w, i32_w]; rfl))
        | (refine take_ (i := 34) (N := some 52) (v := ?_) (a' := ?_) (bA 35 47) rfl rfl (take_ofW HT_.out HW_.out (by kernel_rfl)) (fun _ _ _ h => h) (Or.inl ⟨by rfl, ?_⟩) hHeld ?_ ?_; rotate_left; (rintro w' ⟨sz1, sz2, sz3, sz4, sz5, sz6⟩; go_simp; with_reducible rfl); rotate_left; (simp only [Act.put, sI_, s0_, sS_, i64_w, i32_w]; rfl))
        | (refine pure_ (i := 34) (N := some 52) (v := undef) (a' := ?_) (bA 35 47) rfl rfl (any_of HT_.out (by kernel_rfl)) (fun _ _ _ h => h) (Or.inr ⟨by rfl, rfl⟩) ?_ ?_; rotate_left; (simp only [Act.put, sI_, s0_, sS_, i64_w, i32_w]; rfl))
        first
        | (refine one_ (i := 35) (N := some 53) (bA 36 47) rfl rfl (one_of HT_.out (by kernel_rfl)) (by decide) (fun K hK => ?_)
           refine goes_ Try.func63 (by kernel_rfl) rfl #[.int .i64 ((rd_T69 l0 x3_1).f0), .int .i64 1000000] (by rfl) rfl rfl tA_ ?_
           with_reducible refine (hinterlandref09_Out.calls ((rd_T69 l0 x3_1).f0) 1000000 _ _ A32.out).mono ?_
           rintro e w' ⟨rfl, ⟨nd, rfl⟩⟩
           refine ⟨_, rfl, ?_⟩
           refine hK.out _ _ ⟨(blk_cell BK371.out 0).trans rfl, (blk_cell BK371.out 1).trans rfl, (blk_cell BK371.out 2).trans rfl, (blk_cell BK371.out 3).trans rfl, (blk_cell BK371.out 4).trans rfl, (blk_cell BK371.out 5).trans rfl, ((HB.out.cell (World.block_lt_of_cell? w _ hwz1_0)).trans hwz1_0), ((HB.out.cell (World.block_lt_of_cell? w _ hwz1_1)).trans hwz1_1), ((HB.out.cell (World.block_lt_of_cell? w _ hwz1_2)).trans hwz1_2), ((HB.out.cell (World.block_lt_of_cell? w _ hwz1_3)).trans hwz1_3), ((HB.out.cell (World.block_lt_of_cell? w _ hwz1_4)).trans hwz1_4), ((HB.out.cell (World.block_lt_of_cell? w _ hwz1_5)).trans hwz1_5)⟩ (fun hHeld => ?_)
           clear hK K
           refine norm_ (a' := ?_) ?_ ?_
           rotate_left
           ·show Act.put _ (some 53) _ = _
            simp only [Act.put, sI_, s0_, sS_, i64_w, i32_w]
            rfl)
        | (refine one_ (i := 35) (N := some 53) (bA 36 47) rfl rfl (one_of HT_.out (by kernel_rfl)) (by decide) (fun K hK => ?_)
           refine goes_ Try.func63 (by kernel_rfl) rfl #[.int .i64 ((rd_T69 l0 x3_1).f0), .int .i64 1000000] (by rfl) rfl rfl tA_ ?_
           with_reducible refine (hinterlandref09_Out.calls ((rd_T69 l0 x3_1).f0) 1000000 _ _ A63.out).mono ?_
           rintro e w' ⟨rfl, ⟨nd, rfl⟩⟩
           refine ⟨_, rfl, ?_⟩
           refine hK.out _ _ ⟨(blk_cell BK371.out 0).trans rfl, (blk_cell BK371.out 1).trans rfl, (blk_cell BK371.out 2).trans rfl, (blk_cell BK371.out 3).trans rfl, (blk_cell BK371.out 4).trans rfl, (blk_cell BK371.out 5).trans rfl⟩ (fun hHeld => ?_)
           clear hK K
           refine norm_ (a' := ?_) ?_ ?_
           rotate_left
           ·show Act.put _ (some 53) _ = _
            simp only [Act.put, sI_, s0_, sS_, i64_w, i32_w]
            rfl)
        | (refine pure_ (i := 35) (N := some 53) (v := undef) (a' := ?_) (bA 36 47) rfl rfl (any_of HT_.out (by kernel_rfl)) (fun _ _ _ h => h) (Or.inr ⟨by rfl, rfl⟩) ?_ ?_; rotate_left; (simp only [Act.put, sI_, s0_, sS_, i64_w, i32_w]; rfl))
        refine pure_ (i := 36) (N := some 54) (v := ?_) (a' := ?_) (bA 37 47) rfl rfl (any_of HT_.out (by kernel_rfl)) (fun _ _ _ h => h) (Or.inl ⟨by rfl, ?_⟩) ?_ ?_; rotate_left; (intro w'; go_simp; with_reducible rfl); rotate_left; (simp only [Act.put, sI_, s0_, sS_, i64_w, i32_w]; rfl)
        refine pure_ (i := 37) (N := some 55) (v := ?_) (a' := ?_) (bA 38 47) rfl rfl (any_of HT_.out (by kernel_rfl)) (fun _ _ _ h => h) (Or.inl ⟨by rfl, ?_⟩) ?_ ?_; rotate_left; (intro w'; go_simp; with_reducible rfl); rotate_left; (simp only [Act.put, sI_, s0_, sS_, i64_w, i32_w]; rfl)
        first
        | (refine pure_ (i := 38) (N := some 56) (v := ?_) (a' := ?_) (bA 39 47) rfl rfl (any_of HT_.out (by kernel_rfl)) (fun _ _ _ h => h) (Or.inl ⟨by rfl, ?_⟩) ?_ ?_; rotate_left; (intro w'; go_simp; with_reducible rfl); rotate_left; (simp only [Act.put, sI_, s0_, sS_, i64_w, i32_w]; rfl))
        | (refine pure_ (i := 38) (N := some 56) (v := undef) (a' := ?_) (bA 39 47) rfl rfl (any_of HT_.out (by kernel_rfl)) (fun _ _ _ h => h) (Or.inr ⟨by rfl, rfl⟩) ?_ ?_; rotate_left; (simp only [Act.put, sI_, s0_, sS_, i64_w, i32_w]; rfl))
        first
        | (refine take_ (i := 39) (N := some 57) (v := ?_) (a' := ?_) (bA 40 47) rfl rfl (take_ofW HT_.out HW_.out (by kernel_rfl)) (fun _ _ _ h => h) (Or.inl ⟨by rfl, ?_⟩) hHeld ?_ ?_; rotate_left; (rintro w' ⟨sz1, sz2, sz3, sz4, sz5, sz6, sz7, sz8, sz9, sz10, sz11, sz12⟩; go_simp; with_reducible rfl); rotate_left; (simp only [Act.put, sI_, s0_, sS_, i64_w, i32_w]; rfl))
        | (refine take_ (i := 39) (N := some 57) (v := ?_) (a' := ?_) (bA 40 47) rfl rfl (take_ofW HT_.out HW_.out (by kernel_rfl)) (fun _ _ _ h => h) (Or.inl ⟨by rfl, ?_⟩) hHeld ?_ ?_; rotate_left; (rintro w' ⟨sz1, sz2, sz3, sz4, sz5, sz6⟩; go_simp; with_reducible rfl); rotate_left; (simp only [Act.put, sI_, s0_, sS_, i64_w, i32_w]; rfl))
        | (refine pure_ (i := 39) (N := some 57) (v := undef) (a' := ?_) (bA 40 47) rfl rfl (any_of HT_.out (by kernel_rfl)) (fun _ _ _ h => h) (Or.inr ⟨by rfl, rfl⟩) ?_ ?_; rotate_left; (simp only [Act.put, sI_, s0_, sS_, i64_w, i32_w]; rfl))
        first
        | (refine one_ (i := 40) (N := some 58) (bA 41 47) rfl rfl (one_of HT_.out (by kernel_rfl)) (by decide) (fun K hK => ?_)
           refine goes_ Try.func63 (by kernel_rfl) rfl #[.int .i64 ((rd_T69 l0 x3_1).f1), .int .i64 1000000] (by rfl) rfl rfl tA_ ?_
           with_reducible refine (hinterlandref09_Out.calls ((rd_T69 l0 x3_1).f1) 1000000 _ _ A37.out).mono ?_
           rintro e w' ⟨rfl, ⟨nd, rfl⟩⟩
           refine ⟨_, rfl, ?_⟩
           refine hK.out _ _ ⟨(blk_cell BK371.out 0).trans rfl, (blk_cell BK371.out 1).trans rfl, (blk_cell BK371.out 2).trans rfl, (blk_cell BK371.out 3).trans rfl, (blk_cell BK371.out 4).trans rfl, (blk_cell BK371.out 5).trans rfl, ((HB.out.cell (World.block_lt_of_cell? w _ hwz1_0)).trans hwz1_0), ((HB.out.cell (World.block_lt_of_cell? w _ hwz1_1)).trans hwz1_1), ((HB.out.cell (World.block_lt_of_cell? w _ hwz1_2)).trans hwz1_2), ((HB.out.cell (World.block_lt_of_cell? w _ hwz1_3)).trans hwz1_3), ((HB.out.cell (World.block_lt_of_cell? w _ hwz1_4)).trans hwz1_4), ((HB.out.cell (World.block_lt_of_cell? w _ hwz1_5)).trans hwz1_5)⟩ (fun hHeld => ?_)
           clear hK K
           refine norm_ (a' := ?_) ?_ ?_
           rotate_left
           ·show Act.put _ (some 58) _ = _
            simp only [Act.put, sI_, s0_, sS_, i64_w, i32_w]
            rfl)
        | (refine one_ (i := 40) (N := some 58) (bA 41 47) rfl rfl (one_of HT_.out (by kernel_rfl)) (by decide) (fun K hK => ?_)
           refine goes_ Try.func63 (by kernel_rfl) rfl #[.int .i64 ((rd_T69 l0 x3_1).f1), .int .i64 1000000] (by rfl) rfl rfl tA_ ?_
           with_reducible refine (hinterlandref09_Out.calls ((rd_T69 l0 x3_1).f1) 1000000 _ _ A67.out).mono ?_
           rintro e w' ⟨rfl, ⟨nd, rfl⟩⟩
           refine ⟨_, rfl, ?_⟩
           refine hK.out _ _ ⟨(blk_cell BK371.out 0).trans rfl, (blk_cell BK371.out 1).trans rfl, (blk_cell BK371.out 2).trans rfl, (blk_cell BK371.out 3).trans rfl, (blk_cell BK371.out 4).trans rfl, (blk_cell BK371.out 5).trans rfl⟩ (fun hHeld => ?_)
           clear hK K
           refine norm_ (a' := ?_) ?_ ?_
           rotate_left
           ·show Act.put _ (some 58) _ = _
            simp only [Act.put, sI_, s0_, sS_, i64_w, i32_w]
            rfl)
        | (refine pure_ (i := 40) (N := some 58) (v := undef) (a' := ?_) (bA 41 47) rfl rfl (any_of HT_.out (by kernel_rfl)) (fun _ _ _ h => h) (Or.inr ⟨by rfl, rfl⟩) ?_ ?_; rotate_left; (simp only [Act.put, sI_, s0_, sS_, i64_w, i32_w]; rfl))
        refine pure_ (i := 41) (N := some 59) (v := ?_) (a' := ?_) (bA 42 47) rfl rfl (any_of HT_.out (by kernel_rfl)) (fun _ _ _ h => h) (Or.inl ⟨by rfl, ?_⟩) ?_ ?_; rotate_left; (intro w'; go_simp; with_reducible rfl); rotate_left; (simp only [Act.put, sI_, s0_, sS_, i64_w, i32_w]; rfl)
        refine pure_ (i := 42) (N := some 60) (v := ?_) (a' := ?_) (bA 43 47) rfl rfl (any_of HT_.out (by kernel_rfl)) (fun _ _ _ h => h) (Or.inl ⟨by rfl, ?_⟩) ?_ ?_; rotate_left; (intro w'; go_simp; with_reducible rfl); rotate_left; (simp only [Act.put, sI_, s0_, sS_, i64_w, i32_w]; rfl)
        first
        | (refine pure_ (i := 43) (N := some 61) (v := ?_) (a' := ?_) (bA 44 47) rfl rfl (any_of HT_.out (by kernel_rfl)) (fun _ _ _ h => h) (Or.inl ⟨by rfl, ?_⟩) ?_ ?_; rotate_left; (intro w'; go_simp; with_reducible rfl); rotate_left; (simp only [Act.put, sI_, s0_, sS_, i64_w, i32_w]; rfl))
        | (refine pure_ (i := 43) (N := some 61) (v := undef) (a' := ?_) (bA 44 47) rfl rfl (any_of HT_.out (by kernel_rfl)) (fun _ _ _ h => h) (Or.inr ⟨by rfl, rfl⟩) ?_ ?_; rotate_left; (simp only [Act.put, sI_, s0_, sS_, i64_w, i32_w]; rfl))
        first
        | (refine take_ (i := 44) (N := some 62) (v := ?_) (a' := ?_) (bA 45 47) rfl rfl (take_ofW HT_.out HW_.out (by kernel_rfl)) (fun _ _ _ h => h) (Or.inl ⟨by rfl, ?_⟩) hHeld ?_ ?_; rotate_left; (rintro w' ⟨sz1, sz2, sz3, sz4, sz5, sz6, sz7, sz8, sz9, sz10, sz11, sz12⟩; go_simp; with_reducible rfl); rotate_left; (simp only [Act.put, sI_, s0_, sS_, i64_w, i32_w]; rfl))
        | (refine take_ (i := 44) (N := some 62) (v := ?_) (a' := ?_) (bA 45 47) rfl rfl (take_ofW HT_.out HW_.out (by kernel_rfl)) (fun _ _ _ h => h) (Or.inl ⟨by rfl, ?_⟩) hHeld ?_ ?_; rotate_left; (rintro w' ⟨sz1, sz2, sz3, sz4, sz5, sz6⟩; go_simp; with_reducible rfl); rotate_left; (simp only [Act.put, sI_, s0_, sS_, i64_w, i32_w]; rfl))
        | (refine pure_ (i := 44) (N := some 62) (v := undef) (a' := ?_) (bA 45 47) rfl rfl (any_of HT_.out (by kernel_rfl)) (fun _ _ _ h => h) (Or.inr ⟨by rfl, rfl⟩) ?_ ?_; rotate_left; (simp only [Act.put, sI_, s0_, sS_, i64_w, i32_w]; rfl))
        first
        | (refine one_ (i := 45) (N := some 63) (bA 46 47) rfl rfl (one_of HT_.out (by kernel_rfl)) (by decide) (fun K hK => ?_)
           refine goes_ Try.func63 (by kernel_rfl) rfl #[.int .i64 ((rd_T69 l0 x3_1).f2), .int .i64 1000000] (by rfl) rfl rfl tA_ ?_
           with_reducible refine (hinterlandref09_Out.calls ((rd_T69 l0 x3_1).f2) 1000000 t378 _ A42.out).mono ?_
           rintro e w' ⟨rfl, ⟨nd, rfl⟩⟩
           refine ⟨_, rfl, ?_⟩
           refine hK.out _ _ ⟨(blk_cell BK371.out 0).trans rfl, (blk_cell BK371.out 1).trans rfl, (blk_cell BK371.out 2).trans rfl, (blk_cell BK371.out 3).trans rfl, (blk_cell BK371.out 4).trans rfl, (blk_cell BK371.out 5).trans rfl, ((HB.out.cell (World.block_lt_of_cell? w _ hwz1_0)).trans hwz1_0), ((HB.out.cell (World.block_lt_of_cell? w _ hwz1_1)).trans hwz1_1), ((HB.out.cell (World.block_lt_of_cell? w _ hwz1_2)).trans hwz1_2), ((HB.out.cell (World.block_lt_of_cell? w _ hwz1_3)).trans hwz1_3), ((HB.out.cell (World.block_lt_of_cell? w _ hwz1_4)).trans hwz1_4), ((HB.out.cell (World.block_lt_of_cell? w _ hwz1_5)).trans hwz1_5)⟩ (fun hHeld => ?_)
           clear hK K
           refine norm_ (a' := ?_) ?_ ?_
           rotate_left
           ·show Act.put _ (some 63) _ = _
            simp only [Act.put, sI_, s0_, sS_, i64_w, i32_w]
            rfl)
        | (refine one_ (i := 45) (N := some 63) (bA 46 47) rfl rfl (one_of HT_.out (by kernel_rfl)) (by decide) (fun K hK => ?_)
           refine goes_ Try.func63 (by kernel_rfl) rfl #[.int .i64 ((rd_T69 l0 x3_1).f2), .int .i64 1000000] (by rfl) rfl rfl tA_ ?_
           with_reducible refine (hinterlandref09_Out.calls ((rd_T69 l0 x3_1).f2) 1000000 t383 _ A71.out).mono ?_
           rintro e w' ⟨rfl, ⟨nd, rfl⟩⟩
           refine ⟨_, rfl, ?_⟩
           refine hK.out _ _ ⟨(blk_cell BK371.out 0).trans rfl, (blk_cell BK371.out 1).trans rfl, (blk_cell BK371.out 2).trans rfl, (blk_cell BK371.out 3).trans rfl, (blk_cell BK371.out 4).trans rfl, (blk_cell BK371.out 5).trans rfl⟩ (fun hHeld => ?_)
           clear hK K
           refine norm_ (a' := ?_) ?_ ?_
           rotate_left
           ·show Act.put _ (some 63) _ = _
            simp only [Act.put, sI_, s0_, sS_, i64_w, i32_w]
            rfl)
        | (refine pure_ (i := 45) (N := some 63) (v := undef) (a' := ?_) (bA 46 47) rfl rfl (any_of HT_.out (by kernel_rfl)) (fun _ _ _ h => h) (Or.inr ⟨by rfl, rfl⟩) ?_ ?_; rotate_left; (simp only [Act.put, sI_, s0_, sS_, i64_w, i32_w]; rfl))
        refine pure_ (i := 46) (N := some 64) (v := ?_) (a' := ?_) (bA 47 47) rfl rfl (any_of HT_.out (by kernel_rfl)) (fun _ _ _ h => h) (Or.inl ⟨by rfl, ?_⟩) ?_ ?_; rotate_left; (intro w'; go_simp; with_reducible rfl); rotate_left; (simp only [Act.put, sI_, s0_, sS_, i64_w, i32_w]; rfl)
        refine done_ (done_of HT_.out (by kernel_rfl)) ?_
        try go_wp2
        first
        | (go_meet
           case rel => exact ⟨_, (true), tS_, H', ⟨by have := HK1.out; first | omega | exact Nat.le_refl _⟩, ⟨dB_ BK371⟩, ⟨dL1_ HB GE371⟩⟩)
        | (go_meet
           case rel => exact ⟨_, (t378), tS_, H', ⟨by have := HK1.out; first | omega | exact Nat.le_refl _⟩, ⟨dB_ BK371⟩, ⟨dL1_ HB GE371⟩⟩)
        | (go_meet
           case rel => exact ⟨_, (t383), tS_, H', ⟨by have := HK1.out; first | omega | exact Nat.le_refl _⟩, ⟨dB_ BK371⟩, ⟨dL1_ HB GE371⟩⟩))
      case rest =>
       clear HC5
       obtain ⟨kq, x64_4, rfl, HA, HJ4, BK371, HB⟩ := hcut
       cases kq with
       | zero => exact absurd HA.out (by simp [hinterlandref09_Validate.j1])
       | succ kj4 =>
        have H := HA.out
        clear HA
        simp only [hinterlandref09_Validate.j1] at H
        by_cases c74 : x64_4 = true
        ·subst c74
         have H1 : (some 1) = some r := by rw [if_pos rfl] at H; exact H
         clear H
         have H := H1
         clear H1
         obtain rfl := Option.some.inj H
         go_wp2
         go_ret
         exact ⟨tE_, dL1_ HB GE371⟩
        ·replace c74 := Bool.eq_false_iff.mpr c74
         subst c74
         have H1 : (hinterlandref09_Validate.l0 kj4 l0 (wrap64 (x3_1 + 1))) = some r := by rw [if_neg (show ¬ (false = true) by decide)] at H; exact H
         clear H
         have H := H1
         clear H1
         have H' := Aside0.mk H
         clear H
         go_wp2
         go_roundg kj4
         case measure => have := HK1.out; have := HJ4.out; omega
         case rel => exact ⟨(wrap64 (x3_1 + 1)), tS_, H', ⟨by have := HK1.out; have := HJ4.out; omega⟩, ⟨dL1_ HB GE371⟩⟩
     ·rw [if_neg c4] at H
      exact absurd H (by simp)
    ·rw [if_neg c3] at H
     have c3b0 : decide (x3_1 < (l0.length : Int)) = false := decide_eq_false c3
     clear c3
     obtain rfl := Option.some.inj H
     go_wp2
     go_ret
     exact ⟨tE_, dL_ HB⟩

end Go.Proofs.Ytgnahbjpockdmaa.Q
namespace Go.Proofs.Ytgnahbjpockdmaa.Q
open Go.RowKit Go.Proofs.YtgnahbjpockdmaaPrs Go.Proofs.YtgnahbjpockdmaaOwn Go.Proofs.YtgnahbjpockdmaaW.PrintWords Go.Proofs.YtgnahbjpockdmaaW.PrintLast Go.Proofs.YtgnahbjpockdmaaW.PrintMore
open List renaming setIfInBounds_toArray → sI_, set_cons_zero → s0_, set_cons_succ → sS_
attribute [local go_sem] max2_int min2_int max_two min_two max_three min_three max_four min_four   -- for this text's walks alone
set_option linter.unusedVariables false
set_option linter.unusedSimpArgs false

/-! ### fleet_clone: function 54 -/
def fleet_clone.f (l0_0 : List Int) (l0_1 : List Int) (a0_2 : Int) (a0_3 : Int) (a0_4 : Int) (a0_5 : Int) (l0_6 : List (S69)) : Option (List Int × List Int × Int × Int × Int × Int × (List (S69))) := if ([] : List Int).length + l0_0.length < 17592186044416 then (if ([] : List Int).length + l0_1.length < 17592186044416 then (if ([] : List (S69)).length + l0_6.length < 2932031007402 then (some ((([] : List Int) ++ l0_0), (([] : List Int) ++ l0_1), a0_2, a0_3, a0_4, a0_5, (([] : List (S69)) ++ l0_6))) else (none)) else (none)) else (none)
def fleet_clone.T1 : Bool × List (List Nat × List Nat) := (true, [([], []), ([0], [0]), ([1], [1]), ([], []), ([3], [3]), ([4, 2], [4]), ([], []), ([6], [6]), ([7, 5], [7]), ([0, 1, 2, 3, 4, 6, 7], []), ([9, 2, 8, 0, 1, 2, 3, 4, 6, 7], [2, 9]), ([0, 1, 2, 3, 4, 5, 6, 7, 9, 10], []), ([11, 5, 10, 0, 1, 2, 3, 4, 5, 6, 7, 9, 10], [5, 11]), ([0, 1, 2, 3, 4, 5, 6, 7, 8, 9, 10, 11, 12], []), ([13, 8, 12, 0, 1, 2, 3, 4, 5, 6, 7, 8, 9, 10, 11, 12], [8, 13])])
def fleet_clone.B1 : List Nat := [0, 1, 3, 0, 8, 31, 0, 64, 255, 223, 1023, 2047, 4095, 8191, 16383]
theorem fleet_clone.tab1 : rtab .any (opsOf Try.f54 1) = fleet_clone.T1 := by kernel_rfl
theorem fleet_clone.bits1 : waitsOk fleet_clone.T1.2 fleet_clone.B1 = true := by kernel_rfl
set_option maxHeartbeats 8000000 in
set_option maxRecDepth 100000 in
theorem fleet_clone.calls (A0_0 : Option Addr) (c0_0 : Nat) (l0_0 : List Int) (A0_1 : Option Addr) (c0_1 : Nat) (l0_1 : List Int) (a0_2 : Int) (a0_3 : Int) (a0_4 : Int) (a0_5 : Int) (A0_6 : Option Addr) (c0_6 : Nat) (l0_6 : List (S69)) (r1 : List Int) (r2 : List Int) (r3 : Int) (r4 : Int) (r5 : Int) (r6 : Int) (r7 : List (S69)) (w : World) (hr0_0 : Kd.C (Kd.int .i64) w A0_0 l0_0.length l0_0) (hc0_0 : l0_0.length ≤ c0_0) (hr0_1 : Kd.C (Kd.int .i64) w A0_1 l0_1.length l0_1) (hc0_1 : l0_1.length ≤ c0_1) (hr0_6 : Kd.C k69 w A0_6 l0_6.length l0_6) (hc0_6 : l0_6.length ≤ c0_6) (h : fleet_clone.f l0_0 l0_1 a0_2 a0_3 a0_4 a0_5 l0_6 = some (r1, r2, r3, r4, r5, r6, r7)) :
    Calls Try.prog 54 #[.agg #[.slice A0_0 l0_0.length c0_0, .slice A0_1 l0_1.length c0_1, .int .i64 a0_2, .int .i64 a0_3, .int .i64 a0_4, .int .i64 a0_5, .slice A0_6 l0_6.length c0_6]] w fun e w' => ∃ v0_ v1_ v6_ : Value, e = .returned (.agg #[v0_, v1_, .int .i64 r3, .int .i64 r4, .int .i64 r5, .int .i64 r6, v6_]) ∧ Kd.R (Kd.int .i64) 3 w' w.heap.size (fun k_ => some k_ ≠ (v1_ : Value).ownBlock) v0_ r1 ∧ Kd.R (Kd.int .i64) 3 w' w.heap.size (fun k_ => some k_ ≠ (v0_ : Value).ownBlock) v1_ r2 ∧ Kd.R k69 69 w' w.heap.size (fun _ => True) v6_ r7 ∧ Below w.heap.size w w' := by
 have hu27 := Try.underlying27
 have HR0_0 := Aside0.mk hr0_0
 have HC0_0 := Aside0.mk hc0_0
 clear hr0_0 hc0_0
 have HR0_1 := Aside0.mk hr0_1
 have HC0_1 := Aside0.mk hc0_1
 clear hr0_1 hc0_1
 have HR0_6 := Aside0.mk hr0_6
 have HC0_6 := Aside0.mk hc0_6
 clear hr0_6 hc0_6
 have HB := Aside0.mk (Below.refl w.heap.size w)
 have H : (if ([] : List Int).length + l0_0.length < 17592186044416 then (if ([] : List Int).length + l0_1.length < 17592186044416 then (if ([] : List (S69)).length + l0_6.length < 2932031007402 then (some ((([] : List Int) ++ l0_0), (([] : List Int) ++ l0_1), a0_2, a0_3, a0_4, a0_5, (([] : List (S69)) ++ l0_6))) else (none)) else (none)) else (none)) = some (r1, r2, r3, r4, r5, r6, r7) := h
 clear h
 by_cases c2 : ([] : List Int).length + l0_0.length < 17592186044416
 ·rw [if_pos c2] at H
  have LMc2 := Aside0.mk c2
  clear c2
  obtain ⟨y585, hy585⟩ : ∃ y_ : List Int, y_ = (([] : List Int) ++ l0_0) := ⟨_, rfl⟩
  replace H : (if ([] : List Int).length + l0_1.length < 17592186044416 then (if ([] : List (S69)).length + l0_6.length < 2932031007402 then (some (y585, (([] : List Int) ++ l0_1), a0_2, a0_3, a0_4, a0_5, (([] : List (S69)) ++ l0_6))) else (none)) else (none)) = some (r1, r2, r3, r4, r5, r6, r7) := by first | (rw [hy585]; with_reducible exact H) | (have H2_ := (Option.bind_some _ _).symm.trans H; rw [hy585]; with_reducible exact H2_) | (have H2_ := (Option.bind_some _ _).symm.trans H; with_reducible exact H2_) | with_reducible exact H | (rw [hy585]; exact H) | exact H
  have Ny585 := Aside0.mk hy585
  clear hy585
  by_cases c3 : ([] : List Int).length + l0_1.length < 17592186044416
  ·rw [if_pos c3] at H
   have LMc3 := Aside0.mk c3
   clear c3
   obtain ⟨y588, hy588⟩ : ∃ y_ : List Int, y_ = (([] : List Int) ++ l0_1) := ⟨_, rfl⟩
   replace H : (if ([] : List (S69)).length + l0_6.length < 2932031007402 then (some (y585, y588, a0_2, a0_3, a0_4, a0_5, (([] : List (S69)) ++ l0_6))) else (none)) = some (r1, r2, r3, r4, r5, r6, r7) := by first | (rw [hy588]; with_reducible exact H) | (have H2_ := (Option.bind_some _ _).symm.trans H; rw [hy588]; with_reducible exact H2_) | (have H2_ := (Option.bind_some _ _).symm.trans H; with_reducible exact H2_) | with_reducible exact H | (rw [hy588]; exact H) | exact H
   have Ny588 := Aside0.mk hy588
   clear hy588
   by_cases c4 : ([] : List (S69)).length + l0_6.length < 2932031007402
   ·rw [if_pos c4] at H
    have LMc4 := Aside0.mk c4
    clear c4
    obtain ⟨y591, hy591⟩ : ∃ y_ : List (S69), y_ = (([] : List (S69)) ++ l0_6) := ⟨_, rfl⟩
    replace H : (some (y585, y588, a0_2, a0_3, a0_4, a0_5, y591)) = some (r1, r2, r3, r4, r5, r6, r7) := by first | (rw [hy591]; with_reducible exact H) | (have H2_ := (Option.bind_some _ _).symm.trans H; rw [hy591]; with_reducible exact H2_) | (have H2_ := (Option.bind_some _ _).symm.trans H; with_reducible exact H2_) | with_reducible exact H | (rw [hy591]; exact H) | exact H
    have Ny591 := Aside0.mk hy591
    clear hy591
    simp only [Option.some.injEq, Prod.mk.injEq] at H
    obtain ⟨rfl, rfl, rfl, rfl, rfl, rfl, rfl⟩ := H
    go_enter Try.func54, Try.ntmps54
    try go_wp2_with (first | ((with_reducible refine gate_dst (N := 1) rfl ?_); refine box_event ?hg (N := 1) ?hd (cs := #[.slice A0_0 l0_0.length c0_0, .slice A0_1 l0_1.length c0_1, .int .i64 a0_2, .int .i64 a0_3, .int .i64 a0_4, .int .i64 a0_5, .slice A0_6 l0_6.length c0_6]) (t := 27) ?hr ?_; (case hd => rfl); (case hg => rfl); (case hr => first | (go_simp; done) | (go_simp; rfl)); intro gb583 hg w5 hbox hb; have BK583 := Aside0.mk (hbox); have GW583 := Aside0.mk ((dS_ hg (dL_ HB) : w.heap.size ≤ gb583)); have GE583 := Aside0.mk ((dS_ hg (dL_ HB) : w.heap.size ≤ gb583)); replace HB := Aside0.mk (below_step (dL_ HB) hb); clear hb hbox hg) | ((with_reducible refine gate_dst (N := 2) rfl ?_); refine box_event ?hg (N := 2) ?hd (cs := #[.slice none 0 0, .slice none 0 0, .int .i64 0, .int .i64 0, .int .i64 0, .int .i64 0, .slice none 0 0]) (t := 27) ?hr ?_; (case hd => rfl); (case hg => rfl); (case hr => first | (go_simp; done) | (go_simp; rfl)); intro gb584 hg w6 hbox hb; have BK584 := Aside0.mk (hbox); have GW584 := Aside0.mk ((dS_ hg (dL1_ HB GE583) : w.heap.size ≤ gb584)); have GE584 := Aside0.mk ((dS_ hg (dL1_ HB GE583) : w.heap.size ≤ gb584)); replace HB := Aside0.mk (below_step (dL1_ HB GE583) hb); have NB583_584 := Aside0.mk ((by rw [hg]; exact Nat.ne_of_lt (blk_lt (dB_ BK583)) : gb583 ≠ gb584)); have NB584_583 := Aside0.mk ((by rw [hg]; exact Nat.ne_of_gt (blk_lt (dB_ BK583)) : gb584 ≠ gb583)); replace BK583 := Aside0.mk (blk_below (g := gb583) (o := .cells #[.slice A0_0 l0_0.length c0_0, .slice A0_1 l0_1.length c0_1, .int .i64 a0_2, .int .i64 a0_3, .int .i64 a0_4, .int .i64 a0_5, .slice A0_6 l0_6.length c0_6] 27 (0, 0)) (dB_ BK583) hb); clear hb hbox hg))
    replace BK583 := Aside0.mk (blk_drew BK583.out)
    replace BK584 := Aside0.mk (blk_drew BK584.out)
    replace HB := Aside0.mk (below_drew1 HB.out)
    refine start_ (n := 15) (S := fun w' => w'.cell? ⟨gb583, 0, none⟩ = some (.slice A0_0 l0_0.length c0_0) ∧ w'.cell? ⟨gb583, 1, none⟩ = some (.slice A0_1 l0_1.length c0_1) ∧ w'.cell? ⟨gb583, 2, none⟩ = some (.int .i64 a0_2) ∧ w'.cell? ⟨gb583, 3, none⟩ = some (.int .i64 a0_3) ∧ w'.cell? ⟨gb583, 4, none⟩ = some (.int .i64 a0_4) ∧ w'.cell? ⟨gb583, 5, none⟩ = some (.int .i64 a0_5) ∧ w'.cell? ⟨gb583, 6, none⟩ = some (.slice A0_6 l0_6.length c0_6)) (ds := [10, 12, 14]) #[false, false, false, false, false, false, false, false, false, false, false, false, false, false, false] (by kernel_rfl) rfl rfl ⟨(blk_cell BK583.out 0).trans rfl, (blk_cell BK583.out 1).trans rfl, (blk_cell BK583.out 2).trans rfl, (blk_cell BK583.out 3).trans rfl, (blk_cell BK583.out 4).trans rfl, (blk_cell BK583.out 5).trans rfl, (blk_cell BK583.out 6).trans rfl⟩ (fun hHeld => ?_); refine with_tabW fleet_clone.tab1 fleet_clone.bits1 (fun HT_ HW_ => ?_)
    generalize w6.drew = w7 at BK583 BK584 HB hHeld ⊢
    refine pure_ (i := 0) (N := some 3) (v := ?_) (a' := ?_) (bA 1 15) rfl rfl (any_of HT_.out (by kernel_rfl)) (fun _ _ _ h => h) (Or.inl ⟨by rfl, ?_⟩) ?_ ?_; rotate_left; (intro w'; go_simp; with_reducible rfl); rotate_left; (simp only [Act.put, sI_, s0_, sS_, i64_w, i32_w]; rfl)
    refine pure_ (i := 3) (N := some 6) (v := ?_) (a' := ?_) #[true, false, false, true, false, false, false, false, false, false, false, false, false, false, false] rfl rfl (any_of HT_.out (by kernel_rfl)) (fun _ _ _ h => h) (Or.inl ⟨by rfl, ?_⟩) ?_ ?_; rotate_left; (intro w'; go_simp; with_reducible rfl); rotate_left; (simp only [Act.put, sI_, s0_, sS_, i64_w, i32_w]; rfl)
    refine pure_ (i := 6) (N := some 9) (v := ?_) (a' := ?_) #[true, false, false, true, false, false, true, false, false, false, false, false, false, false, false] rfl rfl (any_of HT_.out (by kernel_rfl)) (fun _ _ _ h => h) (Or.inl ⟨by rfl, ?_⟩) ?_ ?_; rotate_left; (intro w'; go_simp; with_reducible rfl); rotate_left; (simp only [Act.put, sI_, s0_, sS_, i64_w, i32_w]; rfl)
    refine take_ (i := 1) (N := some 4) (v := ?_) (a' := ?_) #[true, true, false, true, false, false, true, false, false, false, false, false, false, false, false] rfl rfl (take_ofW HT_.out HW_.out (by kernel_rfl)) (fun _ _ _ h => h) (Or.inl ⟨by rfl, ?_⟩) hHeld ?_ ?_; rotate_left; (rintro w' ⟨s0, s1, s2, s3, s4, s5, s6⟩; go_simp; with_reducible rfl); rotate_left; (simp only [Act.put, sI_, s0_, sS_, i64_w, i32_w]; rfl)
    refine take_ (i := 4) (N := some 7) (v := ?_) (a' := ?_) #[true, true, false, true, true, false, true, false, false, false, false, false, false, false, false] rfl rfl (take_ofW HT_.out HW_.out (by kernel_rfl)) (fun _ _ _ h => h) (Or.inl ⟨by rfl, ?_⟩) hHeld ?_ ?_; rotate_left; (rintro w' ⟨s0, s1, s2, s3, s4, s5, s6⟩; go_simp; with_reducible rfl); rotate_left; (simp only [Act.put, sI_, s0_, sS_, i64_w, i32_w]; rfl)
    refine take_ (i := 7) (N := some 10) (v := ?_) (a' := ?_) #[true, true, false, true, true, false, true, true, false, false, false, false, false, false, false] rfl rfl (take_ofW HT_.out HW_.out (by kernel_rfl)) (fun _ _ _ h => h) (Or.inl ⟨by rfl, ?_⟩) hHeld ?_ ?_; rotate_left; (rintro w' ⟨s0, s1, s2, s3, s4, s5, s6⟩; go_simp; with_reducible rfl); rotate_left; (simp only [Act.put, sI_, s0_, sS_, i64_w, i32_w]; rfl)
    refine one_ (i := 2) (N := some 5) #[true, true, true, true, true, false, true, true, false, false, false, false, false, false, false] rfl rfl (one_of HT_.out (by kernel_rfl)) (by decide) (fun K hK => ?_)
    refine Kd.R_append_rows_step (Kd.int .i64) (w0 := w) w.heap.size (by rfl) (.const (.slice none 0 0)) (.tmp 4) 24 3 (.int .i64 0) 8 rfl Try.underlying24 info3 rfl (by decide) (by omega) (.slice none 0 0) ([] : List Int) l0_0 _ _ _ (fun _ => True) (fun _ => False) rfl rfl ?aO ?aR (fun _ _ h => h) (fun _ h => h.elim) ?aF ?aB ?aS ?aL ?_
    (case aR => exact dC_ HR0_0 HB)
    (case aB => exact (dL2_ HB GE583 GE584))
    (case aF => exact (fun _ _ => trivial))
    (case aO => exact ((Kd.R_nil _ _ _ _ (fun _ => True))))
    (case aS => exact (below_size (dL2_ HB GE583 GE584)))
    (case aL => have := LMc2.out; omega)
    intro v586 w8 ho hb hg hat
    rw [← Ny585.out] at ho
    replace BK583 := Aside0.mk (blk_grown (g := gb583) (o := .cells #[.slice A0_0 l0_0.length c0_0, .slice A0_1 l0_1.length c0_1, .int .i64 a0_2, .int .i64 a0_3, .int .i64 a0_4, .int .i64 a0_5, .slice A0_6 l0_6.length c0_6] 27 (0, 0)) (dB_ BK583) hg (by simp [Value.ownBlock]))
    replace BK584 := Aside0.mk (blk_grown (g := gb584) (o := .cells #[.slice none 0 0, .slice none 0 0, .int .i64 0, .int .i64 0, .int .i64 0, .int .i64 0, .slice none 0 0] 27 (0, 0)) (dB_ BK584) hg (by simp [Value.ownBlock]))
    replace HB := Aside0.mk (hb)
    have HO587 := Aside0.mk (ho)
    clear ho hb hg hat
    refine hK.out _ _ ⟨(blk_cell BK583.out 0).trans rfl, (blk_cell BK583.out 1).trans rfl, (blk_cell BK583.out 2).trans rfl, (blk_cell BK583.out 3).trans rfl, (blk_cell BK583.out 4).trans rfl, (blk_cell BK583.out 5).trans rfl, (blk_cell BK583.out 6).trans rfl⟩ (fun hHeld => ?_)
    clear hK K
    refine norm_ (a' := ?_) ?_ ?_
    rotate_left
    ·show Act.put _ (some 5) _ = _
     simp only [Act.put, sI_, s0_, sS_, i64_w, i32_w]
     rfl
    refine pure_ (i := 9) (N := some 12) (v := ?_) (a' := ?_) #[true, true, true, true, true, false, true, true, false, true, false, false, false, false, false] rfl rfl (any_of HT_.out (by kernel_rfl)) (fun _ _ _ h => h) (Or.inl ⟨by rfl, ?_⟩) ?_ ?_; rotate_left; (intro w'; go_simp; with_reducible rfl); rotate_left; (simp only [Act.put, sI_, s0_, sS_, i64_w, i32_w]; rfl)
    refine one_ (i := 5) (N := some 8) #[true, true, true, true, true, true, true, true, false, true, false, false, false, false, false] rfl rfl (one_of HT_.out (by kernel_rfl)) (by decide) (fun K hK => ?_)
    refine Kd.R_append_rows_step (Kd.int .i64) (w0 := w) w.heap.size (by rfl) (.const (.slice none 0 0)) (.tmp 7) 24 3 (.int .i64 0) 8 rfl Try.underlying24 info3 rfl (by decide) (by omega) (.slice none 0 0) ([] : List Int) l0_1 _ _ _ (fun k_ => some k_ ≠ (v586 : Value).ownBlock) (fun _ => False) rfl rfl ?aO ?aR (fun _ _ h => h) (fun _ h => h.elim) ?aF ?aB ?aS ?aL ?_
    (case aR => exact dC_ HR0_1 HB)
    (case aB => exact (dL2_ HB GE583 GE584))
    (case aF => exact (fun k_ hk => Kd.fresh' (Kd.R_lt (dR_ HO587)) k_ hk))
    (case aO => exact ((Kd.R_nil _ _ _ _ (fun k_ => some k_ ≠ (v586 : Value).ownBlock))))
    (case aS => exact (below_size (dL2_ HB GE583 GE584)))
    (case aL => have := LMc3.out; omega)
    intro v589 w9 ho hb hg hat
    rw [← Ny588.out] at ho
    replace BK583 := Aside0.mk (blk_grown (g := gb583) (o := .cells #[.slice A0_0 l0_0.length c0_0, .slice A0_1 l0_1.length c0_1, .int .i64 a0_2, .int .i64 a0_3, .int .i64 a0_4, .int .i64 a0_5, .slice A0_6 l0_6.length c0_6] 27 (0, 0)) (dB_ BK583) hg (by simp [Value.ownBlock]))
    replace BK584 := Aside0.mk (blk_grown (g := gb584) (o := .cells #[.slice none 0 0, .slice none 0 0, .int .i64 0, .int .i64 0, .int .i64 0, .int .i64 0, .slice none 0 0] 27 (0, 0)) (dB_ BK584) hg (by simp [Value.ownBlock]))
    replace HO587 := Aside0.mk (Kd.R_after (Kd.R_apart_nil (dR_ HO587)) hg hat)
    replace HB := Aside0.mk (hb)
    have HO590 := Aside0.mk (ho)
    clear ho hb hg hat
    refine hK.out _ _ ⟨(blk_cell BK583.out 0).trans rfl, (blk_cell BK583.out 1).trans rfl, (blk_cell BK583.out 2).trans rfl, (blk_cell BK583.out 3).trans rfl, (blk_cell BK583.out 4).trans rfl, (blk_cell BK583.out 5).trans rfl, (blk_cell BK583.out 6).trans rfl⟩ (fun hHeld => ?_)
    clear hK K
    refine norm_ (a' := ?_) ?_ ?_
    rotate_left
    ·show Act.put _ (some 8) _ = _
     simp only [Act.put, sI_, s0_, sS_, i64_w, i32_w]
     rfl
    refine one_ (i := 8) (N := some 11) (bA 10 15) rfl rfl (one_of HT_.out (by kernel_rfl)) (by decide) (fun K hK => ?_)
    refine Kd.R_append_rows_step k69 (w0 := w) w.heap.size (by rfl) (.const (.slice none 0 0)) (.tmp 10) 25 69 (.agg #[(.int .i64 0), (.int .i64 0), (.int .i64 0), (.int .i64 0), (.int .i64 0), (.int .i64 0)]) 48 rfl Try.underlying25 info69 rfl (by decide) (by omega) (.slice none 0 0) ([] : List (S69)) l0_6 _ _ _ (fun _ => True) (fun _ => False) rfl rfl ?aO ?aR (fun _ _ h => h) (fun _ h => h.elim) ?aF ?aB ?aS ?aL ?_
    (case aR => exact dC_ HR0_6 HB)
    (case aB => exact (dL2_ HB GE583 GE584))
    (case aF => exact (fun _ _ => trivial))
    (case aO => exact ((Kd.R_nil _ _ _ _ (fun _ => True))))
    (case aS => exact (below_size (dL2_ HB GE583 GE584)))
    (case aL => have := LMc4.out; omega)
    intro v592 w10 ho hb hg hat
    rw [← Ny591.out] at ho
    replace BK583 := Aside0.mk (blk_grown (g := gb583) (o := .cells #[.slice A0_0 l0_0.length c0_0, .slice A0_1 l0_1.length c0_1, .int .i64 a0_2, .int .i64 a0_3, .int .i64 a0_4, .int .i64 a0_5, .slice A0_6 l0_6.length c0_6] 27 (0, 0)) (dB_ BK583) hg (by simp [Value.ownBlock]))
    replace BK584 := Aside0.mk (blk_grown (g := gb584) (o := .cells #[.slice none 0 0, .slice none 0 0, .int .i64 0, .int .i64 0, .int .i64 0, .int .i64 0, .slice none 0 0] 27 (0, 0)) (dB_ BK584) hg (by simp [Value.ownBlock]))
    replace HO587 := Aside0.mk (Kd.R_grown (dR_ HO587) hg (fun _ _ => by simp [Value.ownBlock]))
    replace HO590 := Aside0.mk (Kd.R_grown (dR_ HO590) hg (fun _ _ => by simp [Value.ownBlock]))
    replace HB := Aside0.mk (hb)
    have HO593 := Aside0.mk (ho)
    clear ho hb hg hat
    obtain ⟨Ao11, co11, eo11⟩ := Kd.R_slice HO587.out
    (first | subst eo11 | (injection eo11 with f1_ f2_ f3_; have f4_ := f1_.symm; have f5_ := f3_.symm; clear f1_ f2_ f3_; subst f4_; subst f5_))
    obtain ⟨Ao13, co13, eo13⟩ := Kd.R_slice HO590.out
    (first | subst eo13 | (injection eo13 with f1_ f2_ f3_; have f4_ := f1_.symm; have f5_ := f3_.symm; clear f1_ f2_ f3_; subst f4_; subst f5_))
    obtain ⟨Ao15, co15, eo15⟩ := Kd.R_slice HO593.out
    (first | subst eo15 | (injection eo15 with f1_ f2_ f3_; have f4_ := f1_.symm; have f5_ := f3_.symm; clear f1_ f2_ f3_; subst f4_; subst f5_))
    refine hK.out _ _ ⟨(blk_cell BK583.out 0).trans rfl, (blk_cell BK583.out 1).trans rfl, (blk_cell BK583.out 2).trans rfl, (blk_cell BK583.out 3).trans rfl, (blk_cell BK583.out 4).trans rfl, (blk_cell BK583.out 5).trans rfl, (blk_cell BK583.out 6).trans rfl⟩ (fun hHeld => ?_)
    clear hK K
    refine norm_ (a' := ?_) ?_ ?_
    rotate_left
    ·show Act.put _ (some 11) _ = _
     simp only [Act.put, sI_, s0_, sS_, i64_w, i32_w]
     rfl
    refine last_ (i := 10) (N := none) #[true, true, true, true, true, true, true, true, true, true, true, false, false, false, false] rfl rfl (one_of HT_.out (by kernel_rfl)) (by decide) (fun K hK => ?_)
    have hs12 : w10.cell? ⟨gb583, 0, none⟩ = some (.slice A0_0 l0_0.length c0_0) := (blk_cell BK583.out 0).trans rfl
    have hfs12 := blk_frozen BK583.out 0
    have hns12_1 := NB584_583.out
    have hms12_1 := NB583_584.out
    refine skip_ (w1 := ?_) (by rfl) rfl ?_ ?_
    rotate_left
    ·go_simp
     rfl
    refine hK.out _ _ ?_
    clear hK K
    refine pure_ (i := 11) (N := some 13) (v := ?_) (a' := ?_) (bA 12 15) rfl rfl (any_of HT_.out (by kernel_rfl)) (fun _ _ _ h => h) (Or.inl ⟨by rfl, ?_⟩) ?_ ?_; rotate_left; (intro w'; go_simp; with_reducible rfl); rotate_left; (simp only [Act.put, sI_, s0_, sS_, i64_w, i32_w]; rfl)
    refine last_ (i := 12) (N := none) #[true, true, true, true, true, true, true, true, true, true, true, true, true, false, false] rfl rfl (one_of HT_.out (by kernel_rfl)) (by decide) (fun K hK => ?_)
    have hs14 : w10.cell? ⟨gb583, 1, none⟩ = some (.slice A0_1 l0_1.length c0_1) := (blk_cell BK583.out 1).trans rfl
    have hfs14 := blk_frozen BK583.out 1
    have hns14_1 := NB584_583.out
    have hms14_1 := NB583_584.out
    refine skip_ (w1 := ?_) (by rfl) rfl ?_ ?_
    rotate_left
    ·go_simp
     rfl
    refine hK.out _ _ ?_
    clear hK K
    refine pure_ (i := 13) (N := some 14) (v := ?_) (a' := ?_) (bA 14 15) rfl rfl (any_of HT_.out (by kernel_rfl)) (fun _ _ _ h => h) (Or.inl ⟨by rfl, ?_⟩) ?_ ?_; rotate_left; (intro w'; go_simp; with_reducible rfl); rotate_left; (simp only [Act.put, sI_, s0_, sS_, i64_w, i32_w]; rfl)
    refine last_ (i := 14) (N := none) #[true, true, true, true, true, true, true, true, true, true, true, true, true, true, true] rfl rfl (one_of HT_.out (by kernel_rfl)) (by decide) (fun K hK => ?_)
    have hs16 : w10.cell? ⟨gb583, 6, none⟩ = some (.slice A0_6 l0_6.length c0_6) := (blk_cell BK583.out 6).trans rfl
    have hfs16 := blk_frozen BK583.out 6
    have hns16_1 := NB584_583.out
    have hms16_1 := NB583_584.out
    refine skip_ (w1 := ?_) (by rfl) rfl ?_ ?_
    rotate_left
    ·go_simp
     rfl
    refine hK.out _ _ ?_
    clear hK K
    refine done_ (done_of HT_.out (by kernel_rfl)) ?_
    have hnb17 := NB583_584.out
    have hnc17 := NB584_583.out
    obtain ⟨hcz18_0, hcz18_1, hcz18_2, hcz18_3, hcz18_4, hcz18_5, hcz18_6, hfz18_0, hfz18_1, hfz18_2, hfz18_3, hfz18_4, hfz18_5, hfz18_6⟩ := cs7_ BK583.out
    obtain ⟨hcz19_0, hcz19_1, hcz19_2, hcz19_3, hcz19_4, hcz19_5, hcz19_6, hfz19_0, hfz19_1, hfz19_2, hfz19_3, hfz19_4, hfz19_5, hfz19_6⟩ := cs7_ BK584.out
    try go_wp2
    refine bodyPost_ret (results_cell_row rfl _ _ gb584 27 #[.slice Ao11 y585.length co11, .slice Ao13 y588.length co13, .int .i64 a0_2, .int .i64 a0_3, .int .i64 a0_4, .int .i64 a0_5, .slice Ao15 y591.length co15] (0, 0) _ rfl (by (with_reducible repeat (first | refine blk_drewN ?_ _ | refine blk_drew ?_ | refine blk_alloc ?_ _)); refine blk_put (cs := #[.slice Ao11 y585.length co11, .slice Ao13 y588.length co13, .int .i64 a0_2, .int .i64 a0_3, .int .i64 a0_4, .int .i64 a0_5, .slice none 0 0]) ?_ 6 _ rfl; (with_reducible repeat (first | refine blk_drewN ?_ _ | refine blk_drew ?_ | refine blk_alloc ?_ _)); refine blk_put (cs := #[.slice Ao11 y585.length co11, .slice Ao13 y588.length co13, .int .i64 a0_2, .int .i64 a0_3, .int .i64 a0_4, .int .i64 0, .slice none 0 0]) ?_ 5 _ rfl; (with_reducible repeat (first | refine blk_drewN ?_ _ | refine blk_drew ?_ | refine blk_alloc ?_ _)); refine blk_put (cs := #[.slice Ao11 y585.length co11, .slice Ao13 y588.length co13, .int .i64 a0_2, .int .i64 a0_3, .int .i64 0, .int .i64 0, .slice none 0 0]) ?_ 4 _ rfl; (with_reducible repeat (first | refine blk_drewN ?_ _ | refine blk_drew ?_ | refine blk_alloc ?_ _)); refine blk_put (cs := #[.slice Ao11 y585.length co11, .slice Ao13 y588.length co13, .int .i64 a0_2, .int .i64 0, .int .i64 0, .int .i64 0, .slice none 0 0]) ?_ 3 _ rfl; (with_reducible repeat (first | refine blk_drewN ?_ _ | refine blk_drew ?_ | refine blk_alloc ?_ _)); refine blk_put (cs := #[.slice Ao11 y585.length co11, .slice Ao13 y588.length co13, .int .i64 0, .int .i64 0, .int .i64 0, .int .i64 0, .slice none 0 0]) ?_ 2 _ rfl; (with_reducible repeat (first | refine blk_drewN ?_ _ | refine blk_drew ?_ | refine blk_alloc ?_ _)); refine blk_put (cs := #[.slice Ao11 y585.length co11, .slice none 0 0, .int .i64 0, .int .i64 0, .int .i64 0, .int .i64 0, .slice none 0 0]) ?_ 1 _ rfl; (with_reducible repeat (first | refine blk_drewN ?_ _ | refine blk_drew ?_ | refine blk_alloc ?_ _)); refine blk_put (cs := #[.slice none 0 0, .slice none 0 0, .int .i64 0, .int .i64 0, .int .i64 0, .int .i64 0, .slice none 0 0]) ?_ 0 _ rfl; (with_reducible repeat (first | refine blk_drewN ?_ _ | refine blk_drew ?_ | refine blk_alloc ?_ _)); refine blk_far ?_ NB584_583.out _; (with_reducible repeat (first | refine blk_drewN ?_ _ | refine blk_drew ?_ | refine blk_alloc ?_ _)); refine blk_far ?_ NB584_583.out _; (with_reducible repeat (first | refine blk_drewN ?_ _ | refine blk_drew ?_ | refine blk_alloc ?_ _)); refine blk_far ?_ NB584_583.out _; (with_reducible repeat (first | refine blk_drewN ?_ _ | refine blk_drew ?_ | refine blk_alloc ?_ _)); exact BK584.out) Try.underlying27 rfl (by kernel_rfl)) rfl ?_
    exact ⟨_, _, _, tE_, by (with_reducible repeat (first | apply Kd.R_alloc | apply Kd.R_drewN | apply Kd.R_drew)); exact Kd.R_mono (far7_ (Kd.R_far (p := ⟨gb583, 6, none⟩) (Kd.R_far (p := ⟨gb583, 1, none⟩) (Kd.R_far (p := ⟨gb583, 0, none⟩) (Kd.R_types (Kd.R_types HO587.out BK583.out (by decide)) BK584.out (by decide)) (fun _ hk => hk.1.2) (.slice Ao11 y585.length co11)) (fun _ hk => hk.1.2) (.slice Ao13 y588.length co13)) (fun _ hk => hk.1.2) (.slice Ao15 y591.length co15)) gb584 (fun _ hk => hk.2) (.slice Ao11 y585.length co11) (.slice Ao13 y588.length co13) (.int .i64 a0_2) (.int .i64 a0_3) (.int .i64 a0_4) (.int .i64 a0_5) (.slice Ao15 y591.length co15)) (fun _ hk => hk.1.1.2), by (with_reducible repeat (first | apply Kd.R_alloc | apply Kd.R_drewN | apply Kd.R_drew)); exact Kd.R_mono (far7_ (Kd.R_far (p := ⟨gb583, 6, none⟩) (Kd.R_far (p := ⟨gb583, 1, none⟩) (Kd.R_far (p := ⟨gb583, 0, none⟩) (Kd.R_types (Kd.R_types HO590.out BK583.out (by decide)) BK584.out (by decide)) (fun _ hk => hk.1.2) (.slice Ao11 y585.length co11)) (fun _ hk => hk.1.2) (.slice Ao13 y588.length co13)) (fun _ hk => hk.1.2) (.slice Ao15 y591.length co15)) gb584 (fun _ hk => hk.2) (.slice Ao11 y585.length co11) (.slice Ao13 y588.length co13) (.int .i64 a0_2) (.int .i64 a0_3) (.int .i64 a0_4) (.int .i64 a0_5) (.slice Ao15 y591.length co15)) (fun _ hk => hk.1.1), by (with_reducible repeat (first | apply Kd.R_alloc | apply Kd.R_drewN | apply Kd.R_drew)); exact Kd.R_mono (far7_ (Kd.R_far (p := ⟨gb583, 6, none⟩) (Kd.R_far (p := ⟨gb583, 1, none⟩) (Kd.R_far (p := ⟨gb583, 0, none⟩) (Kd.R_types (Kd.R_types HO593.out BK583.out (by decide)) BK584.out (by decide)) (fun _ hk => hk.1.2) (.slice Ao11 y585.length co11)) (fun _ hk => hk.1.2) (.slice Ao13 y588.length co13)) (fun _ hk => hk.1.2) (.slice Ao15 y591.length co15)) gb584 (fun _ hk => hk.2) (.slice Ao11 y585.length co11) (.slice Ao13 y588.length co13) (.int .i64 a0_2) (.int .i64 a0_3) (.int .i64 a0_4) (.int .i64 a0_5) (.slice Ao15 y591.length co15)) (fun _ hk => trivial), dL2_ HB GE583 GE584⟩
   ·rw [if_neg c4] at H
    exact absurd H (by simp)
  ·rw [if_neg c3] at H
   exact absurd H (by simp)
 ·rw [if_neg c2] at H
  exact absurd H (by simp)

end Go.Proofs.Ytgnahbjpockdmaa.Q
