-- PRINTED by print.py out of the translation. Not trusted: Lean checks it.
import Derived.Test.YtgnahbjpockdmabPrs
import Derived.Test.YtgnahbjpockdmabQ0
import Derived.Test.YtgnahbjpockdmabQ26
import Derived.Test.YtgnahbjpockdmabQ19
import Derived.Test.YtgnahbjpockdmabQ1
namespace Go.Proofs.Ytgnahbjpockdmab.Q
open Go.RowKit Go.Proofs.YtgnahbjpockdmabPrs Go.Proofs.YtgnahbjpockdmabOwn Go.Proofs.YtgnahbjpockdmabW.PrintWords Go.Proofs.YtgnahbjpockdmabW.PrintLast Go.Proofs.YtgnahbjpockdmabW.PrintMore
open List renaming setIfInBounds_toArray → sI_, set_cons_zero → s0_, set_cons_succ → sS_
attribute [local go_sem] max2_int min2_int max_two min_two max_three min_three max_four min_four   -- for this text's walks alone
set_option linter.unusedVariables false
set_option linter.unusedSimpArgs false

/-! ### hinterlandref09_Validate: function 36 -/
mutual
def hinterlandref09_Validate.l0 : Nat → List (S49) → Int → Option (Int)
  | 0, _, _ => none
  | k + 1, x0, x3 => if x3 < (x0.length : Int) then (if 0 ≤ x3 then (if x3 > 0 then (if 0 ≤ (wrap64 (x3 - 1)) then (if (wrap64 (x3 - 1)) < (x0.length : Int) then ((hinterlandref09_less.f ((rd_T49 x0 (wrap64 (x3 - 1))).f0) ((rd_T49 x0 (wrap64 (x3 - 1))).f1) ((rd_T49 x0 (wrap64 (x3 - 1))).f2) ((rd_T49 x0 (wrap64 (x3 - 1))).f3) ((rd_T49 x0 (wrap64 (x3 - 1))).f4) ((rd_T49 x0 (wrap64 (x3 - 1))).f5) ((rd_T49 x0 x3).f0) ((rd_T49 x0 x3).f1) ((rd_T49 x0 x3).f2) ((rd_T49 x0 x3).f3) ((rd_T49 x0 x3).f4) ((rd_T49 x0 x3).f5)).bind fun t345 => (if t345 = true then (if ((rd_T49 x0 x3).f4) < 1 then (hinterlandref09_Validate.j1 k x0 x3 true) else (if ((rd_T49 x0 x3).f4) > 1000000 then (hinterlandref09_Validate.j1 k x0 x3 true) else ((hinterlandref09_Out.f ((rd_T49 x0 x3).f3) 255).bind fun t346 => (if t346 = true then (hinterlandref09_Validate.j1 k x0 x3 true) else ((hinterlandref09_Out.f ((rd_T49 x0 x3).f5) 1000000000000).bind fun t347 => (if t347 = true then (hinterlandref09_Validate.j1 k x0 x3 true) else ((hinterlandref09_Out.f ((rd_T49 x0 x3).f0) 1000000).bind fun t348 => (if t348 = true then (hinterlandref09_Validate.j1 k x0 x3 true) else ((hinterlandref09_Out.f ((rd_T49 x0 x3).f1) 1000000).bind fun t349 => (if t349 = true then (hinterlandref09_Validate.j1 k x0 x3 true) else ((hinterlandref09_Out.f ((rd_T49 x0 x3).f2) 1000000).bind fun t350 => (hinterlandref09_Validate.j1 k x0 x3 t350)))))))))))) else (hinterlandref09_Validate.j1 k x0 x3 true))) else (none)) else (none)) else (if ((rd_T49 x0 x3).f4) < 1 then (hinterlandref09_Validate.j1 k x0 x3 true) else (if ((rd_T49 x0 x3).f4) > 1000000 then (hinterlandref09_Validate.j1 k x0 x3 true) else ((hinterlandref09_Out.f ((rd_T49 x0 x3).f3) 255).bind fun t351 => (if t351 = true then (hinterlandref09_Validate.j1 k x0 x3 true) else ((hinterlandref09_Out.f ((rd_T49 x0 x3).f5) 1000000000000).bind fun t352 => (if t352 = true then (hinterlandref09_Validate.j1 k x0 x3 true) else ((hinterlandref09_Out.f ((rd_T49 x0 x3).f0) 1000000).bind fun t353 => (if t353 = true then (hinterlandref09_Validate.j1 k x0 x3 true) else ((hinterlandref09_Out.f ((rd_T49 x0 x3).f1) 1000000).bind fun t354 => (if t354 = true then (hinterlandref09_Validate.j1 k x0 x3 true) else ((hinterlandref09_Out.f ((rd_T49 x0 x3).f2) 1000000).bind fun t355 => (hinterlandref09_Validate.j1 k x0 x3 t355))))))))))))) else (none)) else (some 0)
def hinterlandref09_Validate.j1 : Nat → List (S49) → Int → Bool → Option (Int)
  | 0, _, _, _ => none
  | k + 1, x0, x3, x64 => if x64 = true then (some 1) else (hinterlandref09_Validate.l0 k x0 (wrap64 (x3 + 1)))
end
def hinterlandref09_Validate.f (k : Nat) (l0 : List (S49)) : Option (Int) := if (l0.length : Int) > 200 then (some 4) else (hinterlandref09_Validate.l0 k l0 0)
theorem hinterlandref09_Validate.mono_l : ∀ k, (∀ y0 y1, LeO (hinterlandref09_Validate.l0 k y0 y1) (hinterlandref09_Validate.l0 (k + 1) y0 y1)) ∧ (∀ y0 y1 y2, LeO (hinterlandref09_Validate.j1 k y0 y1 y2) (hinterlandref09_Validate.j1 (k + 1) y0 y1 y2))
  | 0 => ⟨fun _ _ r h => by simp [hinterlandref09_Validate.l0] at h, fun _ _ _ r h => by simp [hinterlandref09_Validate.j1] at h⟩
  | k + 1 => by
    obtain ⟨ih0, ih1⟩ := hinterlandref09_Validate.mono_l k; refine ⟨?_, ?_⟩
    · intro y0 y1
      unfold hinterlandref09_Validate.l0
      repeat' first
      | (with_reducible first | apply ih0 | apply ih1 | exact LeO.refl _ | exact LeO.none _ | refine LeO.ite ?_ ?_ | refine LeO.bind ?_ (fun _ => ?_))
    · intro y0 y1 y2
      unfold hinterlandref09_Validate.j1
      repeat' first
      | (with_reducible first | apply ih0 | apply ih1 | exact LeO.refl _ | exact LeO.none _ | refine LeO.ite ?_ ?_ | refine LeO.bind ?_ (fun _ => ?_))
theorem hinterlandref09_Validate.mono : ∀ a0 k, LeO (hinterlandref09_Validate.f k a0) (hinterlandref09_Validate.f (k + 1) a0) := by
  intro a0 k; obtain ⟨ih0, ih1⟩ := hinterlandref09_Validate.mono_l k
  unfold hinterlandref09_Validate.f
  repeat' first
      | (with_reducible first | apply ih0 | apply ih1 | exact LeO.refl _ | exact LeO.none _ | refine LeO.ite ?_ ?_ | refine LeO.bind ?_ (fun _ => ?_))
def hinterlandref09_Validate.T7 : Bool × List (List Nat × List Nat) := (true, [([], []), ([0], [0]), ([1], [1]), ([2], [2]), ([2], [2]), ([4, 2], [2, 4]), ([3, 5, 2], [2, 3, 5]), ([6, 2], [2, 6]), ([2], [2]), ([7, 8, 2, 2], [2, 7, 8]), ([9, 2], [2, 9]), ([2, 10], [2, 10]), ([11, 9], [11]), ([12], [12]), ([13, 12], [12, 13]), ([14, 12], [12, 14]), ([12, 15], [12, 15]), ([16, 12], [16]), ([17], [17]), ([18, 17], [17, 18]), ([19, 17], [17, 19]), ([17, 20], [17, 20]), ([21, 17], [21]), ([22], [22]), ([23, 22], [22, 23]), ([24, 22, 22], [22, 24]), ([22, 25], [22, 25]), ([26, 25], [26]), ([27], [27]), ([28, 27], [27, 28]), ([29, 27, 27], [27, 29]), ([27, 30], [27, 30]), ([31, 30], [31]), ([32], [32]), ([33, 32], [32, 33]), ([34, 32, 32], [32, 34]), ([32, 35], [32, 35]), ([36, 35], [36]), ([37], [37]), ([38, 37], [37, 38]), ([39, 37, 37], [37, 39]), ([37, 40], [37, 40]), ([41, 40], [41]), ([42], [42]), ([43, 42], [42, 43]), ([44, 42, 42], [42, 44]), ([42, 45], [42, 45])])
def hinterlandref09_Validate.B7 : List Nat := [0, 1, 3, 7, 7, 23, 63, 127, 7, 511, 1023, 2047, 4095, 8191, 16383, 32767, 65535, 131071, 262143, 524287, 1048575, 2097151, 4194303, 8388607, 16777215, 33554431, 67108863, 134217727, 268435455, 536870911, 1073741823, 2147483647, 4294967295, 8589934591, 17179869183, 34359738367, 68719476735, 137438953471, 274877906943, 549755813887, 1099511627775, 2199023255551, 4398046511103, 8796093022207, 17592186044415, 35184372088831, 70368744177663]
theorem hinterlandref09_Validate.tab7 : rtab .any (opsOf Try.f36 7) = hinterlandref09_Validate.T7 := by kernel_rfl
theorem hinterlandref09_Validate.bits7 : waitsOk hinterlandref09_Validate.T7.2 hinterlandref09_Validate.B7 = true := by kernel_rfl
set_option maxHeartbeats 8000000 in
set_option maxRecDepth 100000 in
theorem hinterlandref09_Validate.calls (k : Nat) (A0 : Option Addr) (c0 : Nat) (l0 : List (S49)) (r : Int) (w : World) (hr0 : Kd.C k49 w A0 l0.length l0) (hc0 : l0.length ≤ c0) (h : hinterlandref09_Validate.f k l0 = some r) :
    Calls Try.prog 36 #[.slice A0 l0.length c0] w fun e w' => e = .returned (.int .i64 r) ∧ Below w.heap.size w w' := by
 have hu49 := Try.underlying49; have HR0 := Aside0.mk hr0; have HC0 := Aside0.mk hc0; clear hr0 hc0; have HB := Aside0.mk (Below.refl w.heap.size w); have H : (if (l0.length : Int) > 200 then (some 4) else (hinterlandref09_Validate.l0 k l0 0)) = some r := h; clear h
 by_cases c2 : (l0.length : Int) > 200
 ·rw [if_pos c2] at H; have c2b0 : decide (200 < (l0.length : Int)) = true := decide_eq_true c2; have c2b1 : decide (200 < l0.length) = true := decide_eq_true (by omega); clear c2; obtain rfl := Option.some.inj H
  go_enter Try.func36, Try.ntmps36
  go_wp2
  go_ret
  exact ⟨tE_, dL_ HB⟩
 ·rw [if_neg c2] at H; have c2b0 : decide (200 < (l0.length : Int)) = false := decide_eq_false c2; have c2b1 : decide (200 < l0.length) = false := decide_eq_false (by omega); clear c2; have H' := Aside0.mk H; clear H
  go_enter Try.func36, Try.ntmps36
  go_wp2
  go_loopg [3] k (fun kq v3 w' => ∃ (x3_1 : Int), v3 = .int .i64 x3_1 ∧ Aside0 (hinterlandref09_Validate.l0 kq l0 x3_1 = some r) ∧ Aside0 (kq ≤ k) ∧ Aside0 (Below w.heap.size w w'))
  case atStart => exact ⟨(0), tS_, H', ⟨Nat.le_refl _⟩, ⟨dL_ HB⟩⟩
  case round =>
   clear H'; (try clear c2); (try clear c2b0); (try clear c2b1); obtain ⟨x3_1, rfl, HA, HK1, HB⟩ := hrel
   cases gk with
   | zero => exact absurd HA.out (by simp [hinterlandref09_Validate.l0])
   | succ k1 =>
    have H := HA.out; clear HA; simp only [hinterlandref09_Validate.l0] at H
    by_cases c3 : x3_1 < (l0.length : Int)
    ·rw [if_pos c3] at H; have c3b0 : decide (x3_1 < (l0.length : Int)) = true := decide_eq_true c3; clear c3
     by_cases c4 : 0 ≤ x3_1
     ·rw [if_pos c4] at H; have c4b0 : decide (0 ≤ x3_1) = true := decide_eq_true c4; clear c4; have HC5 := Aside0.mk H; clear H; have p342 : 0 ≤ (x3_1 : Int) := of_decide_eq_true tW_; have q342 : x3_1 < (l0.length : Int) := of_decide_eq_true tW_; obtain ⟨ad342, e342, hx342_0, hx342_1, hx342_2, hx342_3, hx342_4, hx342_5⟩ := at_T49 HR0.out x3_1 p342 q342; cases e342; replace hx342_0 := bc_ HB hx342_0; replace hx342_1 := bc_ HB hx342_1; replace hx342_2 := bc_ HB hx342_2; replace hx342_3 := bc_ HB hx342_3; replace hx342_4 := bc_ HB hx342_4; replace hx342_5 := bc_ HB hx342_5; replace p342 := eq_true p342; replace q342 := eq_true q342
      go_upto_region 7 with (first | ((with_reducible refine gate_dst (N := 4) rfl ?_); refine bx_ (N := 4) (cs := #[.int .i64 0, .int .i64 0, .int .i64 0, .int .i64 0, .int .i64 0, .int .i64 0]) (t := 49) ?_; intro gb343 hg w6 hbox hb; have BK343 := Aside0.mk (hbox); have GW343 := Aside0.mk ((dS_ hg (dL_ HB) : w.heap.size ≤ gb343)); have GE343 := GW343; replace HB := Aside0.mk (below_step (dL_ HB) hb); clear hb hbox hg; obtain ⟨hcz7_0, hcz7_1, hcz7_2, hcz7_3, hcz7_4, hcz7_5, hfz7_0, hfz7_1, hfz7_2, hfz7_3, hfz7_4, hfz7_5⟩ := cs6_ BK343.out))
      (try simp only [Act.put, sI_, s0_, sS_])
      go_cut [64] (fun v64 wc => ∃ (kq : Nat) (x64_4 : Bool), v64 = .bool x64_4 ∧ Aside0 (hinterlandref09_Validate.j1 kq l0 x3_1 x64_4 = some r) ∧ Aside0 (kq ≤ k1) ∧ Aside0 (wc.heap[gb343]? = some (.cells #[.int .i64 ((rd_T49 l0 x3_1).f0), .int .i64 ((rd_T49 l0 x3_1).f1), .int .i64 ((rd_T49 l0 x3_1).f2), .int .i64 ((rd_T49 l0 x3_1).f3), .int .i64 ((rd_T49 l0 x3_1).f4), .int .i64 ((rd_T49 l0 x3_1).f5)] 49 (0, 0))) ∧ Aside0 (Below w.heap.size w wc))
      case first =>
       have H := HC5.out; clear HC5; refine (Classical.em (x3_1 > 0)).elim (fun c8 => ?a12_) (fun c8 => ?b12_)
       case' a12_ =>
        rw [if_pos c8] at H; have c8b0 : decide (0 < x3_1) = true := decide_eq_true c8; clear c8
        (first | rw [c8b0] | (simp only [i64_w, i32_w]; rw [c8b0]) | skip)
        obtain ⟨ji9, hji9⟩ : ∃ j_ : Int, (wrap64 (x3_1 - 1)) = j_ := ⟨_, rfl⟩; replace H : (if 0 ≤ (ji9) then (if (ji9) < (l0.length : Int) then ((hinterlandref09_less.f ((rd_T49 l0 (ji9)).f0) ((rd_T49 l0 (ji9)).f1) ((rd_T49 l0 (ji9)).f2) ((rd_T49 l0 (ji9)).f3) ((rd_T49 l0 (ji9)).f4) ((rd_T49 l0 (ji9)).f5) ((rd_T49 l0 x3_1).f0) ((rd_T49 l0 x3_1).f1) ((rd_T49 l0 x3_1).f2) ((rd_T49 l0 x3_1).f3) ((rd_T49 l0 x3_1).f4) ((rd_T49 l0 x3_1).f5)).bind fun t345 => (if t345 = true then (if ((rd_T49 l0 x3_1).f4) < 1 then (hinterlandref09_Validate.j1 k1 l0 x3_1 true) else (if ((rd_T49 l0 x3_1).f4) > 1000000 then (hinterlandref09_Validate.j1 k1 l0 x3_1 true) else ((hinterlandref09_Out.f ((rd_T49 l0 x3_1).f3) 255).bind fun t346 => (if t346 = true then (hinterlandref09_Validate.j1 k1 l0 x3_1 true) else ((hinterlandref09_Out.f ((rd_T49 l0 x3_1).f5) 1000000000000).bind fun t347 => (if t347 = true then (hinterlandref09_Validate.j1 k1 l0 x3_1 true) else ((hinterlandref09_Out.f ((rd_T49 l0 x3_1).f0) 1000000).bind fun t348 => (if t348 = true then (hinterlandref09_Validate.j1 k1 l0 x3_1 true) else ((hinterlandref09_Out.f ((rd_T49 l0 x3_1).f1) 1000000).bind fun t349 => (if t349 = true then (hinterlandref09_Validate.j1 k1 l0 x3_1 true) else ((hinterlandref09_Out.f ((rd_T49 l0 x3_1).f2) 1000000).bind fun t350 => (hinterlandref09_Validate.j1 k1 l0 x3_1 t350)))))))))))) else (hinterlandref09_Validate.j1 k1 l0 x3_1 true))) else (none)) else (none)) = some r := by first | (rw [hji9] at H; exact H) | (simp only [hji9] at H ⊢; exact H)
        have hji9w : (IntKind.i64.wrap (x3_1 - 1)) = ji9 := (i64_w _).trans hji9; refine (Classical.em (0 ≤ (ji9))).elim (fun c10 => ?a13_) (fun c10 => ?b13_)
        case' a13_ =>
         rw [if_pos c10] at H; have c10b0 : decide (0 ≤ (ji9)) = true := decide_eq_true c10; clear c10; refine (Classical.em ((ji9) < (l0.length : Int))).elim (fun c11 => ?a14_) (fun c11 => ?b14_)
         case' a14_ =>
          rw [if_pos c11] at H; have c11b0 : decide ((ji9) < (l0.length : Int)) = true := decide_eq_true c11; clear c11; replace H := Option.bind_eq_some_iff.mp H; obtain ⟨t345, A120, H⟩ := H; have A12 := Aside0.mk A120; clear A120; refine (Classical.em (t345 = true)).elim (fun c13 => ?a15_) (fun c13 => ?b15_)
          case' a15_ =>
           subst c13; rw [if_pos rfl] at H; refine (Classical.em (((rd_T49 l0 x3_1).f4) < 1)).elim (fun c14 => ?a16_) (fun c14 => ?b16_)
           case' a16_ =>
            rw [if_pos c14] at H; have c14b0 : decide (((rd_T49 l0 x3_1).f4) < 1) = true := decide_eq_true c14; clear c14; have H' := Aside0.mk H; clear H
           case' b16_ =>
            rw [if_neg c14] at H; have c14b0 : decide (((rd_T49 l0 x3_1).f4) < 1) = false := decide_eq_false c14; clear c14; refine (Classical.em (((rd_T49 l0 x3_1).f4) > 1000000)).elim (fun c18 => ?a17_) (fun c18 => ?b17_)
            case' a17_ =>
             rw [if_pos c18] at H; have c18b0 : decide (1000000 < ((rd_T49 l0 x3_1).f4)) = true := decide_eq_true c18; clear c18; have H' := Aside0.mk H; clear H
            case' b17_ =>
             rw [if_neg c18] at H; have c18b0 : decide (1000000 < ((rd_T49 l0 x3_1).f4)) = false := decide_eq_false c18; clear c18; replace H := Option.bind_eq_some_iff.mp H; obtain ⟨t346, A220, H⟩ := H; have A22 := Aside0.mk A220; clear A220; refine (Classical.em (t346 = true)).elim (fun c23 => ?a18_) (fun c23 => ?b18_)
             case' a18_ =>
              subst c23; rw [if_pos rfl] at H; have H' := Aside0.mk H; clear H
             case' b18_ =>
              replace c23 := Bool.eq_false_iff.mpr c23; subst c23; rw [if_neg (show ¬ (false = true) by decide)] at H; replace H := Option.bind_eq_some_iff.mp H; obtain ⟨t347, A270, H⟩ := H; have A27 := Aside0.mk A270; clear A270; refine (Classical.em (t347 = true)).elim (fun c28 => ?a19_) (fun c28 => ?b19_)
              case' a19_ =>
               subst c28; rw [if_pos rfl] at H; have H' := Aside0.mk H; clear H
              case' b19_ =>
               replace c28 := Bool.eq_false_iff.mpr c28; subst c28; rw [if_neg (show ¬ (false = true) by decide)] at H; replace H := Option.bind_eq_some_iff.mp H; obtain ⟨t348, A320, H⟩ := H; have A32 := Aside0.mk A320; clear A320; refine (Classical.em (t348 = true)).elim (fun c33 => ?a20_) (fun c33 => ?b20_)
               case' a20_ =>
                subst c33; rw [if_pos rfl] at H; have H' := Aside0.mk H; clear H
               case' b20_ =>
                replace c33 := Bool.eq_false_iff.mpr c33; subst c33; rw [if_neg (show ¬ (false = true) by decide)] at H; replace H := Option.bind_eq_some_iff.mp H; obtain ⟨t349, A370, H⟩ := H; have A37 := Aside0.mk A370; clear A370; refine (Classical.em (t349 = true)).elim (fun c38 => ?a21_) (fun c38 => ?b21_)
                case' a21_ =>
                 subst c38; rw [if_pos rfl] at H; have H' := Aside0.mk H; clear H
                case' b21_ =>
                 replace c38 := Bool.eq_false_iff.mpr c38; subst c38; rw [if_neg (show ¬ (false = true) by decide)] at H; replace H := Option.bind_eq_some_iff.mp H; obtain ⟨t350, A420, H⟩ := H; have A42 := Aside0.mk A420; clear A420; have H' := Aside0.mk H; clear H
          case' b15_ =>
           replace c13 := Bool.eq_false_iff.mpr c13; subst c13; rw [if_neg (show ¬ (false = true) by decide)] at H; have H' := Aside0.mk H; clear H
         case b14_ =>
          rw [if_neg c11] at H; exact absurd H (by simp)
        case b13_ =>
         rw [if_neg c10] at H; exact absurd H (by simp)
       case' b12_ =>
        rw [if_neg c8] at H; have c8b0 : decide (0 < x3_1) = false := decide_eq_false c8; clear c8
        (first | rw [c8b0] | (simp only [i64_w, i32_w]; rw [c8b0]) | skip)
        refine (Classical.em (((rd_T49 l0 x3_1).f4) < 1)).elim (fun c49 => ?a22_) (fun c49 => ?b22_)
        case' a22_ =>
         rw [if_pos c49] at H; have c49b0 : decide (((rd_T49 l0 x3_1).f4) < 1) = true := decide_eq_true c49; clear c49; have H' := Aside0.mk H; clear H
        case' b22_ =>
         rw [if_neg c49] at H; have c49b0 : decide (((rd_T49 l0 x3_1).f4) < 1) = false := decide_eq_false c49; clear c49; refine (Classical.em (((rd_T49 l0 x3_1).f4) > 1000000)).elim (fun c52 => ?a23_) (fun c52 => ?b23_)
         case' a23_ =>
          rw [if_pos c52] at H; have c52b0 : decide (1000000 < ((rd_T49 l0 x3_1).f4)) = true := decide_eq_true c52; clear c52; have H' := Aside0.mk H; clear H
         case' b23_ =>
          rw [if_neg c52] at H; have c52b0 : decide (1000000 < ((rd_T49 l0 x3_1).f4)) = false := decide_eq_false c52; clear c52; replace H := Option.bind_eq_some_iff.mp H; obtain ⟨t351, A550, H⟩ := H; have A55 := Aside0.mk A550; clear A550; refine (Classical.em (t351 = true)).elim (fun c56 => ?a24_) (fun c56 => ?b24_)
          case' a24_ =>
           subst c56; rw [if_pos rfl] at H; have H' := Aside0.mk H; clear H
          case' b24_ =>
           replace c56 := Bool.eq_false_iff.mpr c56; subst c56; rw [if_neg (show ¬ (false = true) by decide)] at H; replace H := Option.bind_eq_some_iff.mp H; obtain ⟨t352, A590, H⟩ := H; have A59 := Aside0.mk A590; clear A590; refine (Classical.em (t352 = true)).elim (fun c60 => ?a25_) (fun c60 => ?b25_)
           case' a25_ =>
            subst c60; rw [if_pos rfl] at H; have H' := Aside0.mk H; clear H
           case' b25_ =>
            replace c60 := Bool.eq_false_iff.mpr c60; subst c60; rw [if_neg (show ¬ (false = true) by decide)] at H; replace H := Option.bind_eq_some_iff.mp H; obtain ⟨t353, A630, H⟩ := H; have A63 := Aside0.mk A630; clear A630; refine (Classical.em (t353 = true)).elim (fun c64 => ?a26_) (fun c64 => ?b26_)
            case' a26_ =>
             subst c64; rw [if_pos rfl] at H; have H' := Aside0.mk H; clear H
            case' b26_ =>
             replace c64 := Bool.eq_false_iff.mpr c64; subst c64; rw [if_neg (show ¬ (false = true) by decide)] at H; replace H := Option.bind_eq_some_iff.mp H; obtain ⟨t354, A670, H⟩ := H; have A67 := Aside0.mk A670; clear A670; refine (Classical.em (t354 = true)).elim (fun c68 => ?a27_) (fun c68 => ?b27_)
             case' a27_ =>
              subst c68; rw [if_pos rfl] at H; have H' := Aside0.mk H; clear H
             case' b27_ =>
              replace c68 := Bool.eq_false_iff.mpr c68; subst c68; rw [if_neg (show ¬ (false = true) by decide)] at H; replace H := Option.bind_eq_some_iff.mp H; obtain ⟨t355, A710, H⟩ := H; have A71 := Aside0.mk A710; clear A710; have H' := Aside0.mk H; clear H
       all_goals (
        first
        | (try go_wp2
           have n0_ : Aside0 (((((((w6.setCell ⟨gb343, 0, none⟩ (.int .i64 ((rd_T49 l0 x3_1).f0))).setCell ⟨gb343, 1, none⟩ (.int .i64 ((rd_T49 l0 x3_1).f1))).setCell ⟨gb343, 2, none⟩ (.int .i64 ((rd_T49 l0 x3_1).f2))).setCell ⟨gb343, 3, none⟩ (.int .i64 ((rd_T49 l0 x3_1).f3))).setCell ⟨gb343, 4, none⟩ (.int .i64 ((rd_T49 l0 x3_1).f4))).setCell ⟨gb343, 5, none⟩ (.int .i64 ((rd_T49 l0 x3_1).f5))).heap[gb343]? = some (.cells #[.int .i64 ((rd_T49 l0 x3_1).f0), .int .i64 ((rd_T49 l0 x3_1).f1), .int .i64 ((rd_T49 l0 x3_1).f2), .int .i64 ((rd_T49 l0 x3_1).f3), .int .i64 ((rd_T49 l0 x3_1).f4), .int .i64 ((rd_T49 l0 x3_1).f5)] 49 (0, 0))) := ⟨bz_ BK343⟩; have n1_ : Aside0 (Below w.heap.size w ((((((w6.setCell ⟨gb343, 0, none⟩ (.int .i64 ((rd_T49 l0 x3_1).f0))).setCell ⟨gb343, 1, none⟩ (.int .i64 ((rd_T49 l0 x3_1).f1))).setCell ⟨gb343, 2, none⟩ (.int .i64 ((rd_T49 l0 x3_1).f2))).setCell ⟨gb343, 3, none⟩ (.int .i64 ((rd_T49 l0 x3_1).f3))).setCell ⟨gb343, 4, none⟩ (.int .i64 ((rd_T49 l0 x3_1).f4))).setCell ⟨gb343, 5, none⟩ (.int .i64 ((rd_T49 l0 x3_1).f5)))) := ⟨dL1_ HB GE343⟩; (try clear BK343); (try clear HB); generalize ((((((w6.setCell ⟨gb343, 0, none⟩ (.int .i64 ((rd_T49 l0 x3_1).f0))).setCell ⟨gb343, 1, none⟩ (.int .i64 ((rd_T49 l0 x3_1).f1))).setCell ⟨gb343, 2, none⟩ (.int .i64 ((rd_T49 l0 x3_1).f2))).setCell ⟨gb343, 3, none⟩ (.int .i64 ((rd_T49 l0 x3_1).f3))).setCell ⟨gb343, 4, none⟩ (.int .i64 ((rd_T49 l0 x3_1).f4))).setCell ⟨gb343, 5, none⟩ (.int .i64 ((rd_T49 l0 x3_1).f5))) = wz1 at n0_ n1_ ⊢; have BK343 := n0_; have HB := n1_; clear n0_ n1_; replace BK343 := Aside0.mk (blk_drew BK343.out); replace HB := Aside0.mk (below_drew1 HB.out); have pz1 : 0 ≤ ((ji9) : Int) := of_decide_eq_true tW_; have qz1 : (ji9) < (l0.length : Int) := of_decide_eq_true tW_; obtain ⟨adz1, ez1, hxz1_0, hxz1_1, hxz1_2, hxz1_3, hxz1_4, hxz1_5⟩ := at_T49 HR0.out (ji9) pz1 qz1; have hwz1_5 := hxz1_5; have hwz1_4 := hxz1_4; have hwz1_3 := hxz1_3; have hwz1_2 := hxz1_2; have hwz1_1 := hxz1_1; have hwz1_0 := hxz1_0; obtain rfl : ad342 = adz1 := (by injection ez1); replace hxz1_0 := bc_ HB hxz1_0; replace hxz1_1 := bc_ HB hxz1_1; replace hxz1_2 := bc_ HB hxz1_2; replace hxz1_3 := bc_ HB hxz1_3; replace hxz1_4 := bc_ HB hxz1_4; replace hxz1_5 := bc_ HB hxz1_5; replace pz1 := eq_true pz1; replace qz1 := eq_true qz1)
        | (try go_wp2
           have n0_ : Aside0 (((((((w6.setCell ⟨gb343, 0, none⟩ (.int .i64 ((rd_T49 l0 x3_1).f0))).setCell ⟨gb343, 1, none⟩ (.int .i64 ((rd_T49 l0 x3_1).f1))).setCell ⟨gb343, 2, none⟩ (.int .i64 ((rd_T49 l0 x3_1).f2))).setCell ⟨gb343, 3, none⟩ (.int .i64 ((rd_T49 l0 x3_1).f3))).setCell ⟨gb343, 4, none⟩ (.int .i64 ((rd_T49 l0 x3_1).f4))).setCell ⟨gb343, 5, none⟩ (.int .i64 ((rd_T49 l0 x3_1).f5))).heap[gb343]? = some (.cells #[.int .i64 ((rd_T49 l0 x3_1).f0), .int .i64 ((rd_T49 l0 x3_1).f1), .int .i64 ((rd_T49 l0 x3_1).f2), .int .i64 ((rd_T49 l0 x3_1).f3), .int .i64 ((rd_T49 l0 x3_1).f4), .int .i64 ((rd_T49 l0 x3_1).f5)] 49 (0, 0))) := ⟨bz_ BK343⟩; have n1_ : Aside0 (Below w.heap.size w ((((((w6.setCell ⟨gb343, 0, none⟩ (.int .i64 ((rd_T49 l0 x3_1).f0))).setCell ⟨gb343, 1, none⟩ (.int .i64 ((rd_T49 l0 x3_1).f1))).setCell ⟨gb343, 2, none⟩ (.int .i64 ((rd_T49 l0 x3_1).f2))).setCell ⟨gb343, 3, none⟩ (.int .i64 ((rd_T49 l0 x3_1).f3))).setCell ⟨gb343, 4, none⟩ (.int .i64 ((rd_T49 l0 x3_1).f4))).setCell ⟨gb343, 5, none⟩ (.int .i64 ((rd_T49 l0 x3_1).f5)))) := ⟨dL1_ HB GE343⟩; generalize ((((((w6.setCell ⟨gb343, 0, none⟩ (.int .i64 ((rd_T49 l0 x3_1).f0))).setCell ⟨gb343, 1, none⟩ (.int .i64 ((rd_T49 l0 x3_1).f1))).setCell ⟨gb343, 2, none⟩ (.int .i64 ((rd_T49 l0 x3_1).f2))).setCell ⟨gb343, 3, none⟩ (.int .i64 ((rd_T49 l0 x3_1).f3))).setCell ⟨gb343, 4, none⟩ (.int .i64 ((rd_T49 l0 x3_1).f4))).setCell ⟨gb343, 5, none⟩ (.int .i64 ((rd_T49 l0 x3_1).f5))) = wz1 at n0_ n1_ ⊢; have BK343 := n0_; have HB := n1_; clear n0_ n1_; have n0_ := Aside0.mk (blk_drew BK343.out); have n1_ := Aside0.mk (below_drew1 HB.out); clear BK343; clear HB; have BK343 := n0_; have HB := n1_; clear n0_ n1_)
        first
        | (refine start_ (n := 47) (S := fun w' => w'.cell? ⟨gb343, 0, none⟩ = some (.int .i64 ((rd_T49 l0 x3_1).f0)) ∧ w'.cell? ⟨gb343, 1, none⟩ = some (.int .i64 ((rd_T49 l0 x3_1).f1)) ∧ w'.cell? ⟨gb343, 2, none⟩ = some (.int .i64 ((rd_T49 l0 x3_1).f2)) ∧ w'.cell? ⟨gb343, 3, none⟩ = some (.int .i64 ((rd_T49 l0 x3_1).f3)) ∧ w'.cell? ⟨gb343, 4, none⟩ = some (.int .i64 ((rd_T49 l0 x3_1).f4)) ∧ w'.cell? ⟨gb343, 5, none⟩ = some (.int .i64 ((rd_T49 l0 x3_1).f5)) ∧ w'.cell? (ad342.add (((ji9)).toNat * 6)) = some (.int .i64 ((rd_T49 l0 (ji9)).f0)) ∧ w'.cell? ⟨(ad342.add (((ji9)).toNat * 6)).block, (ad342.add (((ji9)).toNat * 6)).off + 1, none⟩ = some (.int .i64 ((rd_T49 l0 (ji9)).f1)) ∧ w'.cell? ⟨(ad342.add (((ji9)).toNat * 6)).block, (ad342.add (((ji9)).toNat * 6)).off + 2, none⟩ = some (.int .i64 ((rd_T49 l0 (ji9)).f2)) ∧ w'.cell? ⟨(ad342.add (((ji9)).toNat * 6)).block, (ad342.add (((ji9)).toNat * 6)).off + 3, none⟩ = some (.int .i64 ((rd_T49 l0 (ji9)).f3)) ∧ w'.cell? ⟨(ad342.add (((ji9)).toNat * 6)).block, (ad342.add (((ji9)).toNat * 6)).off + 4, none⟩ = some (.int .i64 ((rd_T49 l0 (ji9)).f4)) ∧ w'.cell? ⟨(ad342.add (((ji9)).toNat * 6)).block, (ad342.add (((ji9)).toNat * 6)).off + 5, none⟩ = some (.int .i64 ((rd_T49 l0 (ji9)).f5))) (ds := []) ⟨bN 47 0⟩ (by kernel_rfl) rfl rfl ⟨(blk_cell BK343.out 0).trans rfl, (blk_cell BK343.out 1).trans rfl, (blk_cell BK343.out 2).trans rfl, (blk_cell BK343.out 3).trans rfl, (blk_cell BK343.out 4).trans rfl, (blk_cell BK343.out 5).trans rfl, ((HB.out.cell (World.block_lt_of_cell? w _ hwz1_0)).trans hwz1_0), ((HB.out.cell (World.block_lt_of_cell? w _ hwz1_1)).trans hwz1_1), ((HB.out.cell (World.block_lt_of_cell? w _ hwz1_2)).trans hwz1_2), ((HB.out.cell (World.block_lt_of_cell? w _ hwz1_3)).trans hwz1_3), ((HB.out.cell (World.block_lt_of_cell? w _ hwz1_4)).trans hwz1_4), ((HB.out.cell (World.block_lt_of_cell? w _ hwz1_5)).trans hwz1_5)⟩ (fun hHeld => ?_); refine with_tabW hinterlandref09_Validate.tab7 hinterlandref09_Validate.bits7 (fun HT_ HW_ => ?_)
           generalize wz1.drew = wz2 at BK343 HB hxz1_0 hxz1_1 hxz1_2 hxz1_3 hxz1_4 hxz1_5 hHeld ⊢)
        | (refine start_ (n := 47) (S := fun w' => w'.cell? ⟨gb343, 0, none⟩ = some (.int .i64 ((rd_T49 l0 x3_1).f0)) ∧ w'.cell? ⟨gb343, 1, none⟩ = some (.int .i64 ((rd_T49 l0 x3_1).f1)) ∧ w'.cell? ⟨gb343, 2, none⟩ = some (.int .i64 ((rd_T49 l0 x3_1).f2)) ∧ w'.cell? ⟨gb343, 3, none⟩ = some (.int .i64 ((rd_T49 l0 x3_1).f3)) ∧ w'.cell? ⟨gb343, 4, none⟩ = some (.int .i64 ((rd_T49 l0 x3_1).f4)) ∧ w'.cell? ⟨gb343, 5, none⟩ = some (.int .i64 ((rd_T49 l0 x3_1).f5))) (ds := []) ⟨bN 47 0⟩ (by kernel_rfl) rfl rfl ⟨(blk_cell BK343.out 0).trans rfl, (blk_cell BK343.out 1).trans rfl, (blk_cell BK343.out 2).trans rfl, (blk_cell BK343.out 3).trans rfl, (blk_cell BK343.out 4).trans rfl, (blk_cell BK343.out 5).trans rfl⟩ (fun hHeld => ?_); refine with_tabW hinterlandref09_Validate.tab7 hinterlandref09_Validate.bits7 (fun HT_ HW_ => ?_)
           generalize wz1.drew = wz2 at BK343 HB hHeld ⊢)
        refine pu_ (i := 0) (N := some 18) (bA 1 47) HT_ rfl ?_; refine pu_ (i := 1) (N := some 19) (bA 2 47) HT_ rfl ?_; refine pu_ (i := 2) (N := some 20) (bA 3 47) HT_ rfl ?_
        first
        | (refine pu_ (i := 3) (N := some 21) (bA 4 47) HT_ rfl ?_)
        | (refine pn_ (i := 3) (N := some 21) (bA 4 47) HT_ rfl ?_)
        first
        | (refine pu_ (i := 4) (N := some 22) (bA 5 47) HT_ rfl ?_)
        | (refine pn_ (i := 4) (N := some 22) (bA 5 47) HT_ rfl ?_)
        first
        | (refine pu_ (i := 5) (N := some 23) (bA 6 47) HT_ rfl ?_)
        | (refine pn_ (i := 5) (N := some 23) (bA 6 47) HT_ rfl ?_)
        first
        | (refine pu_ (i := 6) (N := some 24) (bA 7 47) HT_ rfl ?_)
        | (refine pn_ (i := 6) (N := some 24) (bA 7 47) HT_ rfl ?_)
        first
        | (refine tk_ (i := 7) (N := some 25) (bA 8 47) HT_ HW_ hHeld rfl ?_)
        | (refine pn_ (i := 7) (N := some 25) (bA 8 47) HT_ rfl ?_)
        first
        | (refine tk_ (i := 8) (N := some 26) (bA 9 47) HT_ HW_ hHeld rfl ?_)
        | (refine pn_ (i := 8) (N := some 26) (bA 9 47) HT_ rfl ?_)
        first
        | (refine on_ (i := 9) (N := some 27) (bA 10 47) HT_ rfl (fun K hK => ?_)
           refine goes_ Try.func45 (by kernel_rfl) rfl #[.agg #[.int .i64 ((rd_T49 l0 (ji9)).f0), .int .i64 ((rd_T49 l0 (ji9)).f1), .int .i64 ((rd_T49 l0 (ji9)).f2), .int .i64 ((rd_T49 l0 (ji9)).f3), .int .i64 ((rd_T49 l0 (ji9)).f4), .int .i64 ((rd_T49 l0 (ji9)).f5)], .agg #[.int .i64 ((rd_T49 l0 x3_1).f0), .int .i64 ((rd_T49 l0 x3_1).f1), .int .i64 ((rd_T49 l0 x3_1).f2), .int .i64 ((rd_T49 l0 x3_1).f3), .int .i64 ((rd_T49 l0 x3_1).f4), .int .i64 ((rd_T49 l0 x3_1).f5)]] (by rfl) rfl rfl (by (try simp only [List.map_toArray, List.map_cons, List.map_nil]); first | done | (simp only [hji9]; rfl) | rfl | (simp only [List.length_drop, List.length_take]; rfl)) ?_
           with_reducible refine (hinterlandref09_less.calls ((rd_T49 l0 (ji9)).f0) ((rd_T49 l0 (ji9)).f1) ((rd_T49 l0 (ji9)).f2) ((rd_T49 l0 (ji9)).f3) ((rd_T49 l0 (ji9)).f4) ((rd_T49 l0 (ji9)).f5) ((rd_T49 l0 x3_1).f0) ((rd_T49 l0 x3_1).f1) ((rd_T49 l0 x3_1).f2) ((rd_T49 l0 x3_1).f3) ((rd_T49 l0 x3_1).f4) ((rd_T49 l0 x3_1).f5) _ _ A12.out).mono ?_
           rintro e wz3 ⟨rfl, hb⟩; refine ⟨_, rfl, ?_⟩; replace BK343 := bk_ BK343 hb; replace HB := Aside0.mk (below_step (dL1_ HB GE343) hb); (try clear hb); refine hK.out _ _ ⟨(blk_cell BK343.out 0).trans rfl, (blk_cell BK343.out 1).trans rfl, (blk_cell BK343.out 2).trans rfl, (blk_cell BK343.out 3).trans rfl, (blk_cell BK343.out 4).trans rfl, (blk_cell BK343.out 5).trans rfl, ((HB.out.cell (World.block_lt_of_cell? w _ hwz1_0)).trans hwz1_0), ((HB.out.cell (World.block_lt_of_cell? w _ hwz1_1)).trans hwz1_1), ((HB.out.cell (World.block_lt_of_cell? w _ hwz1_2)).trans hwz1_2), ((HB.out.cell (World.block_lt_of_cell? w _ hwz1_3)).trans hwz1_3), ((HB.out.cell (World.block_lt_of_cell? w _ hwz1_4)).trans hwz1_4), ((HB.out.cell (World.block_lt_of_cell? w _ hwz1_5)).trans hwz1_5)⟩ (fun hHeld => ?_); clear hK K; refine norm_ (a' := ?_) ?_ ?_
           rotate_left
           ·show Act.put _ (some 27) _ = _
            simp only [Act.put, sI_, s0_, sS_, i64_w, i32_w]
            rfl)
        | (refine pn_ (i := 9) (N := some 27) (bA 10 47) HT_ rfl ?_)
        first
        | (refine pu_ (i := 10) (N := some 28) (bA 11 47) HT_ rfl ?_)
        | (refine pn_ (i := 10) (N := some 28) (bA 11 47) HT_ rfl ?_)
        refine pu_ (i := 11) (N := some 29) (bA 12 47) HT_ rfl ?_; refine pu_ (i := 12) (N := some 30) (bA 13 47) HT_ rfl ?_
        first
        | (refine pu_ (i := 13) (N := some 31) (bA 14 47) HT_ rfl ?_)
        | (refine pn_ (i := 13) (N := some 31) (bA 14 47) HT_ rfl ?_)
        first
        | (refine tk_ (i := 14) (N := some 32) (bA 15 47) HT_ HW_ hHeld rfl ?_)
        | (refine tk_ (i := 14) (N := some 32) (bA 15 47) HT_ HW_ hHeld rfl ?_)
        | (refine pn_ (i := 14) (N := some 32) (bA 15 47) HT_ rfl ?_)
        first
        | (refine pu_ (i := 15) (N := some 33) (bA 16 47) HT_ rfl ?_)
        | (refine pn_ (i := 15) (N := some 33) (bA 16 47) HT_ rfl ?_)
        refine pu_ (i := 16) (N := some 34) (bA 17 47) HT_ rfl ?_; refine pu_ (i := 17) (N := some 35) (bA 18 47) HT_ rfl ?_
        first
        | (refine pu_ (i := 18) (N := some 36) (bA 19 47) HT_ rfl ?_)
        | (refine pn_ (i := 18) (N := some 36) (bA 19 47) HT_ rfl ?_)
        first
        | (refine tk_ (i := 19) (N := some 37) (bA 20 47) HT_ HW_ hHeld rfl ?_)
        | (refine tk_ (i := 19) (N := some 37) (bA 20 47) HT_ HW_ hHeld rfl ?_)
        | (refine pn_ (i := 19) (N := some 37) (bA 20 47) HT_ rfl ?_)
        first
        | (refine pu_ (i := 20) (N := some 38) (bA 21 47) HT_ rfl ?_)
        | (refine pn_ (i := 20) (N := some 38) (bA 21 47) HT_ rfl ?_)
        refine pu_ (i := 21) (N := some 39) (bA 22 47) HT_ rfl ?_; refine pu_ (i := 22) (N := some 40) (bA 23 47) HT_ rfl ?_
        first
        | (refine pu_ (i := 23) (N := some 41) (bA 24 47) HT_ rfl ?_)
        | (refine pn_ (i := 23) (N := some 41) (bA 24 47) HT_ rfl ?_)
        first
        | (refine tk_ (i := 24) (N := some 42) (bA 25 47) HT_ HW_ hHeld rfl ?_)
        | (refine tk_ (i := 24) (N := some 42) (bA 25 47) HT_ HW_ hHeld rfl ?_)
        | (refine pn_ (i := 24) (N := some 42) (bA 25 47) HT_ rfl ?_)
        first
        | (refine on_ (i := 25) (N := some 43) (bA 26 47) HT_ rfl (fun K hK => ?_)
           refine goes_ Try.func46 (by kernel_rfl) rfl #[.int .i64 ((rd_T49 l0 x3_1).f3), .int .i64 255] (by rfl) rfl rfl tA_ ?_
           with_reducible refine (hinterlandref09_Out.calls ((rd_T49 l0 x3_1).f3) 255 _ _ A22.out).mono ?_
           rintro e w' ⟨rfl, ⟨nd, rfl⟩⟩; refine ⟨_, rfl, ?_⟩; refine hK.out _ _ ⟨(blk_cell BK343.out 0).trans rfl, (blk_cell BK343.out 1).trans rfl, (blk_cell BK343.out 2).trans rfl, (blk_cell BK343.out 3).trans rfl, (blk_cell BK343.out 4).trans rfl, (blk_cell BK343.out 5).trans rfl, ((HB.out.cell (World.block_lt_of_cell? w _ hwz1_0)).trans hwz1_0), ((HB.out.cell (World.block_lt_of_cell? w _ hwz1_1)).trans hwz1_1), ((HB.out.cell (World.block_lt_of_cell? w _ hwz1_2)).trans hwz1_2), ((HB.out.cell (World.block_lt_of_cell? w _ hwz1_3)).trans hwz1_3), ((HB.out.cell (World.block_lt_of_cell? w _ hwz1_4)).trans hwz1_4), ((HB.out.cell (World.block_lt_of_cell? w _ hwz1_5)).trans hwz1_5)⟩ (fun hHeld => ?_); clear hK K; refine norm_ (a' := ?_) ?_ ?_
           rotate_left
           ·show Act.put _ (some 43) _ = _
            simp only [Act.put, sI_, s0_, sS_, i64_w, i32_w]
            rfl)
        | (refine on_ (i := 25) (N := some 43) (bA 26 47) HT_ rfl (fun K hK => ?_)
           refine goes_ Try.func46 (by kernel_rfl) rfl #[.int .i64 ((rd_T49 l0 x3_1).f3), .int .i64 255] (by rfl) rfl rfl tA_ ?_
           with_reducible refine (hinterlandref09_Out.calls ((rd_T49 l0 x3_1).f3) 255 _ _ A55.out).mono ?_
           rintro e w' ⟨rfl, ⟨nd, rfl⟩⟩; refine ⟨_, rfl, ?_⟩; refine hK.out _ _ ⟨(blk_cell BK343.out 0).trans rfl, (blk_cell BK343.out 1).trans rfl, (blk_cell BK343.out 2).trans rfl, (blk_cell BK343.out 3).trans rfl, (blk_cell BK343.out 4).trans rfl, (blk_cell BK343.out 5).trans rfl⟩ (fun hHeld => ?_); clear hK K; refine norm_ (a' := ?_) ?_ ?_
           rotate_left
           ·show Act.put _ (some 43) _ = _
            simp only [Act.put, sI_, s0_, sS_, i64_w, i32_w]
            rfl)
        | (refine pn_ (i := 25) (N := some 43) (bA 26 47) HT_ rfl ?_)
        refine pu_ (i := 26) (N := some 44) (bA 27 47) HT_ rfl ?_; refine pu_ (i := 27) (N := some 45) (bA 28 47) HT_ rfl ?_
        first
        | (refine pu_ (i := 28) (N := some 46) (bA 29 47) HT_ rfl ?_)
        | (refine pn_ (i := 28) (N := some 46) (bA 29 47) HT_ rfl ?_)
        first
        | (refine tk_ (i := 29) (N := some 47) (bA 30 47) HT_ HW_ hHeld rfl ?_)
        | (refine tk_ (i := 29) (N := some 47) (bA 30 47) HT_ HW_ hHeld rfl ?_)
        | (refine pn_ (i := 29) (N := some 47) (bA 30 47) HT_ rfl ?_)
        first
        | (refine on_ (i := 30) (N := some 48) (bA 31 47) HT_ rfl (fun K hK => ?_)
           refine goes_ Try.func46 (by kernel_rfl) rfl #[.int .i64 ((rd_T49 l0 x3_1).f5), .int .i64 1000000000000] (by rfl) rfl rfl tA_ ?_
           with_reducible refine (hinterlandref09_Out.calls ((rd_T49 l0 x3_1).f5) 1000000000000 _ _ A27.out).mono ?_
           rintro e w' ⟨rfl, ⟨nd, rfl⟩⟩; refine ⟨_, rfl, ?_⟩; refine hK.out _ _ ⟨(blk_cell BK343.out 0).trans rfl, (blk_cell BK343.out 1).trans rfl, (blk_cell BK343.out 2).trans rfl, (blk_cell BK343.out 3).trans rfl, (blk_cell BK343.out 4).trans rfl, (blk_cell BK343.out 5).trans rfl, ((HB.out.cell (World.block_lt_of_cell? w _ hwz1_0)).trans hwz1_0), ((HB.out.cell (World.block_lt_of_cell? w _ hwz1_1)).trans hwz1_1), ((HB.out.cell (World.block_lt_of_cell? w _ hwz1_2)).trans hwz1_2), ((HB.out.cell (World.block_lt_of_cell? w _ hwz1_3)).trans hwz1_3), ((HB.out.cell (World.block_lt_of_cell? w _ hwz1_4)).trans hwz1_4), ((HB.out.cell (World.block_lt_of_cell? w _ hwz1_5)).trans hwz1_5)⟩ (fun hHeld => ?_); clear hK K; refine norm_ (a' := ?_) ?_ ?_
           rotate_left
           ·show Act.put _ (some 48) _ = _
            simp only [Act.put, sI_, s0_, sS_, i64_w, i32_w]
            rfl)
        | (refine on_ (i := 30) (N := some 48) (bA 31 47) HT_ rfl (fun K hK => ?_)
           refine goes_ Try.func46 (by kernel_rfl) rfl #[.int .i64 ((rd_T49 l0 x3_1).f5), .int .i64 1000000000000] (by rfl) rfl rfl tA_ ?_
           with_reducible refine (hinterlandref09_Out.calls ((rd_T49 l0 x3_1).f5) 1000000000000 _ _ A59.out).mono ?_
           rintro e w' ⟨rfl, ⟨nd, rfl⟩⟩; refine ⟨_, rfl, ?_⟩; refine hK.out _ _ ⟨(blk_cell BK343.out 0).trans rfl, (blk_cell BK343.out 1).trans rfl, (blk_cell BK343.out 2).trans rfl, (blk_cell BK343.out 3).trans rfl, (blk_cell BK343.out 4).trans rfl, (blk_cell BK343.out 5).trans rfl⟩ (fun hHeld => ?_); clear hK K; refine norm_ (a' := ?_) ?_ ?_
           rotate_left
           ·show Act.put _ (some 48) _ = _
            simp only [Act.put, sI_, s0_, sS_, i64_w, i32_w]
            rfl)
        | (refine pn_ (i := 30) (N := some 48) (bA 31 47) HT_ rfl ?_)
        refine pu_ (i := 31) (N := some 49) (bA 32 47) HT_ rfl ?_; refine pu_ (i := 32) (N := some 50) (bA 33 47) HT_ rfl ?_
        first
        | (refine pu_ (i := 33) (N := some 51) (bA 34 47) HT_ rfl ?_)
        | (refine pn_ (i := 33) (N := some 51) (bA 34 47) HT_ rfl ?_)
        first
        | (refine tk_ (i := 34) (N := some 52) (bA 35 47) HT_ HW_ hHeld rfl ?_)
        | (refine tk_ (i := 34) (N := some 52) (bA 35 47) HT_ HW_ hHeld rfl ?_)
        | (refine pn_ (i := 34) (N := some 52) (bA 35 47) HT_ rfl ?_)
        first
        | (refine on_ (i := 35) (N := some 53) (bA 36 47) HT_ rfl (fun K hK => ?_)
           refine goes_ Try.func46 (by kernel_rfl) rfl #[.int .i64 ((rd_T49 l0 x3_1).f0), .int .i64 1000000] (by rfl) rfl rfl tA_ ?_
           with_reducible refine (hinterlandref09_Out.calls ((rd_T49 l0 x3_1).f0) 1000000 _ _ A32.out).mono ?_
           rintro e w' ⟨rfl, ⟨nd, rfl⟩⟩; refine ⟨_, rfl, ?_⟩; refine hK.out _ _ ⟨(blk_cell BK343.out 0).trans rfl, (blk_cell BK343.out 1).trans rfl, (blk_cell BK343.out 2).trans rfl, (blk_cell BK343.out 3).trans rfl, (blk_cell BK343.out 4).trans rfl, (blk_cell BK343.out 5).trans rfl, ((HB.out.cell (World.block_lt_of_cell? w _ hwz1_0)).trans hwz1_0), ((HB.out.cell (World.block_lt_of_cell? w _ hwz1_1)).trans hwz1_1), ((HB.out.cell (World.block_lt_of_cell? w _ hwz1_2)).trans hwz1_2), ((HB.out.cell (World.block_lt_of_cell? w _ hwz1_3)).trans hwz1_3), ((HB.out.cell (World.block_lt_of_cell? w _ hwz1_4)).trans hwz1_4), ((HB.out.cell (World.block_lt_of_cell? w _ hwz1_5)).trans hwz1_5)⟩ (fun hHeld => ?_); clear hK K; refine norm_ (a' := ?_) ?_ ?_
           rotate_left
           ·show Act.put _ (some 53) _ = _
            simp only [Act.put, sI_, s0_, sS_, i64_w, i32_w]
            rfl)
        | (refine on_ (i := 35) (N := some 53) (bA 36 47) HT_ rfl (fun K hK => ?_)
           refine goes_ Try.func46 (by kernel_rfl) rfl #[.int .i64 ((rd_T49 l0 x3_1).f0), .int .i64 1000000] (by rfl) rfl rfl tA_ ?_
           with_reducible refine (hinterlandref09_Out.calls ((rd_T49 l0 x3_1).f0) 1000000 _ _ A63.out).mono ?_
           rintro e w' ⟨rfl, ⟨nd, rfl⟩⟩; refine ⟨_, rfl, ?_⟩; refine hK.out _ _ ⟨(blk_cell BK343.out 0).trans rfl, (blk_cell BK343.out 1).trans rfl, (blk_cell BK343.out 2).trans rfl, (blk_cell BK343.out 3).trans rfl, (blk_cell BK343.out 4).trans rfl, (blk_cell BK343.out 5).trans rfl⟩ (fun hHeld => ?_); clear hK K; refine norm_ (a' := ?_) ?_ ?_
           rotate_left
           ·show Act.put _ (some 53) _ = _
            simp only [Act.put, sI_, s0_, sS_, i64_w, i32_w]
            rfl)
        | (refine pn_ (i := 35) (N := some 53) (bA 36 47) HT_ rfl ?_)
        refine pu_ (i := 36) (N := some 54) (bA 37 47) HT_ rfl ?_; refine pu_ (i := 37) (N := some 55) (bA 38 47) HT_ rfl ?_
        first
        | (refine pu_ (i := 38) (N := some 56) (bA 39 47) HT_ rfl ?_)
        | (refine pn_ (i := 38) (N := some 56) (bA 39 47) HT_ rfl ?_)
        first
        | (refine tk_ (i := 39) (N := some 57) (bA 40 47) HT_ HW_ hHeld rfl ?_)
        | (refine tk_ (i := 39) (N := some 57) (bA 40 47) HT_ HW_ hHeld rfl ?_)
        | (refine pn_ (i := 39) (N := some 57) (bA 40 47) HT_ rfl ?_)
        first
        | (refine on_ (i := 40) (N := some 58) (bA 41 47) HT_ rfl (fun K hK => ?_)
           refine goes_ Try.func46 (by kernel_rfl) rfl #[.int .i64 ((rd_T49 l0 x3_1).f1), .int .i64 1000000] (by rfl) rfl rfl tA_ ?_
           with_reducible refine (hinterlandref09_Out.calls ((rd_T49 l0 x3_1).f1) 1000000 _ _ A37.out).mono ?_
           rintro e w' ⟨rfl, ⟨nd, rfl⟩⟩; refine ⟨_, rfl, ?_⟩; refine hK.out _ _ ⟨(blk_cell BK343.out 0).trans rfl, (blk_cell BK343.out 1).trans rfl, (blk_cell BK343.out 2).trans rfl, (blk_cell BK343.out 3).trans rfl, (blk_cell BK343.out 4).trans rfl, (blk_cell BK343.out 5).trans rfl, ((HB.out.cell (World.block_lt_of_cell? w _ hwz1_0)).trans hwz1_0), ((HB.out.cell (World.block_lt_of_cell? w _ hwz1_1)).trans hwz1_1), ((HB.out.cell (World.block_lt_of_cell? w _ hwz1_2)).trans hwz1_2), ((HB.out.cell (World.block_lt_of_cell? w _ hwz1_3)).trans hwz1_3), ((HB.out.cell (World.block_lt_of_cell? w _ hwz1_4)).trans hwz1_4), ((HB.out.cell (World.block_lt_of_cell? w _ hwz1_5)).trans hwz1_5)⟩ (fun hHeld => ?_); clear hK K; refine norm_ (a' := ?_) ?_ ?_
           rotate_left
           ·show Act.put _ (some 58) _ = _
            simp only [Act.put, sI_, s0_, sS_, i64_w, i32_w]
            rfl)
        | (refine on_ (i := 40) (N := some 58) (bA 41 47) HT_ rfl (fun K hK => ?_)
           refine goes_ Try.func46 (by kernel_rfl) rfl #[.int .i64 ((rd_T49 l0 x3_1).f1), .int .i64 1000000] (by rfl) rfl rfl tA_ ?_
           with_reducible refine (hinterlandref09_Out.calls ((rd_T49 l0 x3_1).f1) 1000000 _ _ A67.out).mono ?_
           rintro e w' ⟨rfl, ⟨nd, rfl⟩⟩; refine ⟨_, rfl, ?_⟩; refine hK.out _ _ ⟨(blk_cell BK343.out 0).trans rfl, (blk_cell BK343.out 1).trans rfl, (blk_cell BK343.out 2).trans rfl, (blk_cell BK343.out 3).trans rfl, (blk_cell BK343.out 4).trans rfl, (blk_cell BK343.out 5).trans rfl⟩ (fun hHeld => ?_); clear hK K; refine norm_ (a' := ?_) ?_ ?_
           rotate_left
           ·show Act.put _ (some 58) _ = _
            simp only [Act.put, sI_, s0_, sS_, i64_w, i32_w]
            rfl)
        | (refine pn_ (i := 40) (N := some 58) (bA 41 47) HT_ rfl ?_)
        refine pu_ (i := 41) (N := some 59) (bA 42 47) HT_ rfl ?_; refine pu_ (i := 42) (N := some 60) (bA 43 47) HT_ rfl ?_
        first
        | (refine pu_ (i := 43) (N := some 61) (bA 44 47) HT_ rfl ?_)
        | (refine pn_ (i := 43) (N := some 61) (bA 44 47) HT_ rfl ?_)
        first
        | (refine tk_ (i := 44) (N := some 62) (bA 45 47) HT_ HW_ hHeld rfl ?_)
        | (refine tk_ (i := 44) (N := some 62) (bA 45 47) HT_ HW_ hHeld rfl ?_)
        | (refine pn_ (i := 44) (N := some 62) (bA 45 47) HT_ rfl ?_)
        first
        | (refine on_ (i := 45) (N := some 63) (bA 46 47) HT_ rfl (fun K hK => ?_)
           refine goes_ Try.func46 (by kernel_rfl) rfl #[.int .i64 ((rd_T49 l0 x3_1).f2), .int .i64 1000000] (by rfl) rfl rfl tA_ ?_
           with_reducible refine (hinterlandref09_Out.calls ((rd_T49 l0 x3_1).f2) 1000000 t350 _ A42.out).mono ?_
           rintro e w' ⟨rfl, ⟨nd, rfl⟩⟩; refine ⟨_, rfl, ?_⟩; refine hK.out _ _ ⟨(blk_cell BK343.out 0).trans rfl, (blk_cell BK343.out 1).trans rfl, (blk_cell BK343.out 2).trans rfl, (blk_cell BK343.out 3).trans rfl, (blk_cell BK343.out 4).trans rfl, (blk_cell BK343.out 5).trans rfl, ((HB.out.cell (World.block_lt_of_cell? w _ hwz1_0)).trans hwz1_0), ((HB.out.cell (World.block_lt_of_cell? w _ hwz1_1)).trans hwz1_1), ((HB.out.cell (World.block_lt_of_cell? w _ hwz1_2)).trans hwz1_2), ((HB.out.cell (World.block_lt_of_cell? w _ hwz1_3)).trans hwz1_3), ((HB.out.cell (World.block_lt_of_cell? w _ hwz1_4)).trans hwz1_4), ((HB.out.cell (World.block_lt_of_cell? w _ hwz1_5)).trans hwz1_5)⟩ (fun hHeld => ?_); clear hK K; refine norm_ (a' := ?_) ?_ ?_
           rotate_left
           ·show Act.put _ (some 63) _ = _
            simp only [Act.put, sI_, s0_, sS_, i64_w, i32_w]
            rfl)
        | (refine on_ (i := 45) (N := some 63) (bA 46 47) HT_ rfl (fun K hK => ?_)
           refine goes_ Try.func46 (by kernel_rfl) rfl #[.int .i64 ((rd_T49 l0 x3_1).f2), .int .i64 1000000] (by rfl) rfl rfl tA_ ?_
           with_reducible refine (hinterlandref09_Out.calls ((rd_T49 l0 x3_1).f2) 1000000 t355 _ A71.out).mono ?_
           rintro e w' ⟨rfl, ⟨nd, rfl⟩⟩; refine ⟨_, rfl, ?_⟩; refine hK.out _ _ ⟨(blk_cell BK343.out 0).trans rfl, (blk_cell BK343.out 1).trans rfl, (blk_cell BK343.out 2).trans rfl, (blk_cell BK343.out 3).trans rfl, (blk_cell BK343.out 4).trans rfl, (blk_cell BK343.out 5).trans rfl⟩ (fun hHeld => ?_); clear hK K; refine norm_ (a' := ?_) ?_ ?_
           rotate_left
           ·show Act.put _ (some 63) _ = _
            simp only [Act.put, sI_, s0_, sS_, i64_w, i32_w]
            rfl)
        | (refine pn_ (i := 45) (N := some 63) (bA 46 47) HT_ rfl ?_)
        refine pu_ (i := 46) (N := some 64) (bA 47 47) HT_ rfl ?_; refine done_ (done_of HT_.out (by kernel_rfl)) ?_
        try go_wp2
        first
        | (go_meet
           case rel => exact ⟨_, (true), tS_, H', ⟨by have := HK1.out; first | omega | exact Nat.le_refl _⟩, ⟨dB_ BK343⟩, ⟨dL1_ HB GE343⟩⟩)
        | (go_meet
           case rel => exact ⟨_, (t350), tS_, H', ⟨by have := HK1.out; first | omega | exact Nat.le_refl _⟩, ⟨dB_ BK343⟩, ⟨dL1_ HB GE343⟩⟩)
        | (go_meet
           case rel => exact ⟨_, (t355), tS_, H', ⟨by have := HK1.out; first | omega | exact Nat.le_refl _⟩, ⟨dB_ BK343⟩, ⟨dL1_ HB GE343⟩⟩))
      case rest =>
       clear HC5; (try clear c4); obtain ⟨kq, x64_4, rfl, HA, HJ4, BK343, HB⟩ := hcut
       cases kq with
       | zero => exact absurd HA.out (by simp [hinterlandref09_Validate.j1])
       | succ kj4 =>
        have H := HA.out; clear HA; simp only [hinterlandref09_Validate.j1] at H
        by_cases c74 : x64_4 = true
        ·subst c74; rw [if_pos rfl] at H; obtain rfl := Option.some.inj H; go_wp2
         go_ret
         exact ⟨tE_, dL1_ HB GE343⟩
        ·replace c74 := Bool.eq_false_iff.mpr c74; subst c74; rw [if_neg (show ¬ (false = true) by decide)] at H; have H' := Aside0.mk H; clear H; go_wp2
         go_roundg kj4
         case measure => have := HK1.out; have := HJ4.out; omega
         case rel => exact ⟨(wrap64 (x3_1 + 1)), tS_, H', ⟨by have := HK1.out; have := HJ4.out; omega⟩, ⟨dL1_ HB GE343⟩⟩
     ·rw [if_neg c4] at H; exact absurd H (by simp)
    ·rw [if_neg c3] at H; have c3b0 : decide (x3_1 < (l0.length : Int)) = false := decide_eq_false c3; clear c3; obtain rfl := Option.some.inj H; go_wp2
     go_ret
     exact ⟨tE_, dL_ HB⟩

end Go.Proofs.Ytgnahbjpockdmab.Q
namespace Go.Proofs.Ytgnahbjpockdmab.Q
open Go.RowKit Go.Proofs.YtgnahbjpockdmabPrs Go.Proofs.YtgnahbjpockdmabOwn Go.Proofs.YtgnahbjpockdmabW.PrintWords Go.Proofs.YtgnahbjpockdmabW.PrintLast Go.Proofs.YtgnahbjpockdmabW.PrintMore
attribute [local go_sem] max2_int min2_int max_two min_two max_three min_three max_four min_four   -- for this text's walks alone
set_option linter.unusedVariables false
set_option linter.unusedSimpArgs false

/-! ### hinterlandref14_Validate: function 23 -/
mutual
def hinterlandref14_Validate.l0 : Nat → List (S52) → List Int → Int → Int → List Int → List Int → Int → Int → Int → Int → List (S49) → Option (Int)
  | 0, _, _, _, _, _, _, _, _, _, _, _ => none
  | k + 1, x0, x23, x24, x25, x357000, x357001, x357002, x357003, x357004, x357005, x357006 => if x25 < x24 then (if 0 ≤ x25 then (if x25 < (x23.length : Int) then ((hinterlandref14_within.f (rd x23 x25) (-1) 15).bind fun t359 => (if t359 = true then (if (rd x23 x25) = (-1) then (hinterlandref14_Validate.j1 k x0 x23 x24 x25 false x357000 x357001 x357002 x357003 x357004 x357005 x357006) else (if x25 < (x357000.length : Int) then (if 0 ≤ (rd x357000 x25) then (if (rd x357000 x25) < (x0.length : Int) then (hinterlandref14_Validate.j1 k x0 x23 x24 x25 (((rd_T52 x0 (rd x357000 x25)).f7) == 0) x357000 x357001 x357002 x357003 x357004 x357005 x357006) else (none)) else (none)) else (none))) else (hinterlandref14_Validate.j1 k x0 x23 x24 x25 true x357000 x357001 x357002 x357003 x357004 x357005 x357006))) else (none)) else (none)) else ((hinterlandref14_within.f x357002 0 100000).bind fun t362 => (if t362 = true then ((hinterlandref14_within.f x357003 0 100000).bind fun t363 => (if t363 = true then ((hinterlandref14_within.f x357004 0 1000).bind fun t364 => (if t364 = true then ((hinterlandref14_within.f x357005 0 1000000).bind fun t365 => (if t365 = true then ((hinterlandref09_Validate.f k x357006).bind fun t366 => (hinterlandref14_Validate.j2 k (t366 != 0))) else (hinterlandref14_Validate.j2 k true))) else (hinterlandref14_Validate.j2 k true))) else (hinterlandref14_Validate.j2 k true))) else (hinterlandref14_Validate.j2 k true)))
def hinterlandref14_Validate.j1 : Nat → List (S52) → List Int → Int → Int → Bool → List Int → List Int → Int → Int → Int → Int → List (S49) → Option (Int)
  | 0, _, _, _, _, _, _, _, _, _, _, _, _ => none
  | k + 1, x0, x23, x24, x25, x48, x357000, x357001, x357002, x357003, x357004, x357005, x357006 => if x48 = true then (some 1) else (hinterlandref14_Validate.l0 k x0 x23 x24 (wrap64 (x25 + 1)) x357000 x357001 x357002 x357003 x357004 x357005 x357006)
def hinterlandref14_Validate.j2 : Nat → Bool → Option (Int)
  | 0, _ => none
  | k + 1, x77 => if x77 = true then (some 1) else (some 0)
end
def hinterlandref14_Validate.f (k : Nat) (l0 : List (S52)) (l1_0 : List Int) (l1_1 : List Int) (a1_2 : Int) (a1_3 : Int) (a1_4 : Int) (a1_5 : Int) (l1_6 : List (S49)) : Option (Int) := (hinterlandref14_coupled.f k l0 l1_0).bind fun t357 => (if t357 = 0 then (if (l1_1.length : Int) = (l1_0.length : Int) then (hinterlandref14_Validate.l0 k l0 l1_1 (l1_1.length : Int) 0 l1_0 l1_1 a1_2 a1_3 a1_4 a1_5 l1_6) else (some 1)) else (some t357))
theorem hinterlandref14_Validate.mono_l : ∀ k, (∀ y0 y1 y2 y3 y4 y5 y6 y7 y8 y9 y10, LeO (hinterlandref14_Validate.l0 k y0 y1 y2 y3 y4 y5 y6 y7 y8 y9 y10) (hinterlandref14_Validate.l0 (k + 1) y0 y1 y2 y3 y4 y5 y6 y7 y8 y9 y10)) ∧ (∀ y0 y1 y2 y3 y4 y5 y6 y7 y8 y9 y10 y11, LeO (hinterlandref14_Validate.j1 k y0 y1 y2 y3 y4 y5 y6 y7 y8 y9 y10 y11) (hinterlandref14_Validate.j1 (k + 1) y0 y1 y2 y3 y4 y5 y6 y7 y8 y9 y10 y11)) ∧ (∀ y0, LeO (hinterlandref14_Validate.j2 k y0) (hinterlandref14_Validate.j2 (k + 1) y0))
  | 0 => ⟨fun _ _ _ _ _ _ _ _ _ _ _ r h => by simp [hinterlandref14_Validate.l0] at h, fun _ _ _ _ _ _ _ _ _ _ _ _ r h => by simp [hinterlandref14_Validate.j1] at h, fun _ r h => by simp [hinterlandref14_Validate.j2] at h⟩
  | k + 1 => by
    obtain ⟨ih0, ih1, ih2⟩ := hinterlandref14_Validate.mono_l k; refine ⟨?_, ?_, ?_⟩
    · intro y0 y1 y2 y3 y4 y5 y6 y7 y8 y9 y10
      unfold hinterlandref14_Validate.l0
      repeat' first
      | (with_reducible first | apply ih0 | apply ih1 | apply ih2 | apply hinterlandref09_Validate.mono | apply hinterlandref14_coupled.mono | exact LeO.refl _ | exact LeO.none _ | refine LeO.ite ?_ ?_ | refine LeO.bind ?_ (fun _ => ?_))
    · intro y0 y1 y2 y3 y4 y5 y6 y7 y8 y9 y10 y11
      unfold hinterlandref14_Validate.j1
      repeat' first
      | (with_reducible first | apply ih0 | apply ih1 | apply ih2 | apply hinterlandref09_Validate.mono | apply hinterlandref14_coupled.mono | exact LeO.refl _ | exact LeO.none _ | refine LeO.ite ?_ ?_ | refine LeO.bind ?_ (fun _ => ?_))
    · intro y0
      unfold hinterlandref14_Validate.j2
      repeat' first
      | (with_reducible first | apply ih0 | apply ih1 | apply ih2 | apply hinterlandref09_Validate.mono | apply hinterlandref14_coupled.mono | exact LeO.refl _ | exact LeO.none _ | refine LeO.ite ?_ ?_ | refine LeO.bind ?_ (fun _ => ?_))
theorem hinterlandref14_Validate.mono : ∀ a0 a1 a2 a3 a4 a5 a6 a7 k, LeO (hinterlandref14_Validate.f k a0 a1 a2 a3 a4 a5 a6 a7) (hinterlandref14_Validate.f (k + 1) a0 a1 a2 a3 a4 a5 a6 a7) := by
  intro a0 a1 a2 a3 a4 a5 a6 a7 k; obtain ⟨ih0, ih1, ih2⟩ := hinterlandref14_Validate.mono_l k
  unfold hinterlandref14_Validate.f
  repeat' first
      | (with_reducible first | apply ih0 | apply ih1 | apply ih2 | apply hinterlandref09_Validate.mono | apply hinterlandref14_coupled.mono | exact LeO.refl _ | exact LeO.none _ | refine LeO.ite ?_ ?_ | refine LeO.bind ?_ (fun _ => ?_))
set_option maxHeartbeats 8000000 in
set_option maxRecDepth 100000 in
theorem hinterlandref14_Validate.calls (k : Nat) (A0 : Option Addr) (c0 : Nat) (l0 : List (S52)) (A1_0 : Option Addr) (c1_0 : Nat) (l1_0 : List Int) (A1_1 : Option Addr) (c1_1 : Nat) (l1_1 : List Int) (a1_2 : Int) (a1_3 : Int) (a1_4 : Int) (a1_5 : Int) (A1_6 : Option Addr) (c1_6 : Nat) (l1_6 : List (S49)) (r : Int) (w : World) (hr0 : Kd.C k52 w A0 l0.length l0) (hc0 : l0.length ≤ c0) (hr1_0 : Kd.C (Kd.int .i64) w A1_0 l1_0.length l1_0) (hc1_0 : l1_0.length ≤ c1_0) (hr1_1 : Kd.C (Kd.int .i64) w A1_1 l1_1.length l1_1) (hc1_1 : l1_1.length ≤ c1_1) (hr1_6 : Kd.C k49 w A1_6 l1_6.length l1_6) (hc1_6 : l1_6.length ≤ c1_6) (h : hinterlandref14_Validate.f k l0 l1_0 l1_1 a1_2 a1_3 a1_4 a1_5 l1_6 = some r) :
    Calls Try.prog 23 #[.slice A0 l0.length c0, .agg #[.slice A1_0 l1_0.length c1_0, .slice A1_1 l1_1.length c1_1, .int .i64 a1_2, .int .i64 a1_3, .int .i64 a1_4, .int .i64 a1_5, .slice A1_6 l1_6.length c1_6]] w fun e w' => e = .returned (.int .i64 r) ∧ Below w.heap.size w w' := by
 have hu26 := Try.underlying26; have HR0 := Aside0.mk hr0; have HC0 := Aside0.mk hc0; clear hr0 hc0; have HR1_0 := Aside0.mk hr1_0; have HC1_0 := Aside0.mk hc1_0; clear hr1_0 hc1_0; have HR1_1 := Aside0.mk hr1_1; have HC1_1 := Aside0.mk hc1_1; clear hr1_1 hc1_1; have HR1_6 := Aside0.mk hr1_6; have HC1_6 := Aside0.mk hc1_6; clear hr1_6 hc1_6; have HB := Aside0.mk (Below.refl w.heap.size w); have H : ((hinterlandref14_coupled.f k l0 l1_0).bind fun t357 => (if t357 = 0 then (if (l1_1.length : Int) = (l1_0.length : Int) then (hinterlandref14_Validate.l0 k l0 l1_1 (l1_1.length : Int) 0 l1_0 l1_1 a1_2 a1_3 a1_4 a1_5 l1_6) else (some 1)) else (some t357))) = some r := h; clear h; replace H := Option.bind_eq_some_iff.mp H; obtain ⟨t357, A30, H⟩ := H; have A3 := Aside0.mk A30; clear A30
 by_cases c4 : t357 = 0
 ·rw [if_pos c4] at H; have c4b0 : (t357 == 0) = true := beq_iff_eq.mpr c4; have c4b1 : (t357 != 0) = false := bne_eq_false_iff_eq.mpr c4; clear c4
  by_cases c5 : (l1_1.length : Int) = (l1_0.length : Int)
  ·rw [if_pos c5] at H; have c5b0 : ((l1_1.length : Int) == (l1_0.length : Int)) = true := beq_iff_eq.mpr c5; have c5b1 : ((l1_1.length : Int) != (l1_0.length : Int)) = false := bne_eq_false_iff_eq.mpr c5; have c5b2 : (l1_1.length == l1_0.length) = true := by first | simpa using c5 | (simp at c5 ⊢; omega)
   clear c5; have H' := Aside0.mk H; clear H
   go_enter Try.func23, Try.ntmps23
   go_wp2_with (first | ((with_reducible refine gate_dst (N := 3) rfl ?_); refine bx_ (N := 3) (cs := #[.slice A1_0 l1_0.length c1_0, .slice A1_1 l1_1.length c1_1, .int .i64 a1_2, .int .i64 a1_3, .int .i64 a1_4, .int .i64 a1_5, .slice A1_6 l1_6.length c1_6]) (t := 26) ?_; intro gb356 hg w6 hbox hb; have BK356 := Aside0.mk (hbox); have GW356 := Aside0.mk ((dS_ hg (dL_ HB) : w.heap.size ≤ gb356)); have GE356 := GW356; replace HB := Aside0.mk (below_step (dL_ HB) hb); clear hb hbox hg; obtain ⟨hcz7_0, hcz7_1, hcz7_2, hcz7_3, hcz7_4, hcz7_5, hcz7_6, hfz7_0, hfz7_1, hfz7_2, hfz7_3, hfz7_4, hfz7_5, hfz7_6⟩ := cs7_ BK356.out) | ((with_reducible refine gate_callee (f := 34) rfl ?_); refine gL_ (some 11) Try.func34 #[.slice A0 l0.length c0, .slice A1_0 l1_0.length c1_0] ?_ rfl; (with_reducible refine (hinterlandref14_coupled.calls k _ _ l0 _ _ l1_0 t357 _ ?side1 ?side2 ?side3 ?side4 A3.out).mono ?_); (case side1 => exact dC_ HR0 HB); (case side2 => exact HC0.out); (case side3 => exact dC_ HR1_0 HB); (case side4 => exact HC1_0.out); rintro e w8 ⟨rfl, hb⟩; refine ⟨_, rfl, ?_⟩; replace BK356 := bk_ BK356 hb; replace HB := Aside0.mk (below_step (dL1_ HB GE356) hb); obtain ⟨hcz9_0, hcz9_1, hcz9_2, hcz9_3, hcz9_4, hcz9_5, hcz9_6, hfz9_0, hfz9_1, hfz9_2, hfz9_3, hfz9_4, hfz9_5, hfz9_6⟩ := cs7_ BK356.out))
   go_loopg [25] k (fun kq v25 w' => ∃ (x25_1 : Int), v25 = .int .i64 x25_1 ∧ Aside0 (hinterlandref14_Validate.l0 kq l0 l1_1 (l1_1.length : Int) x25_1 l1_0 l1_1 a1_2 a1_3 a1_4 a1_5 l1_6 = some r) ∧ Aside0 (kq ≤ k) ∧ Aside0 (w'.heap[gb356]? = some (.cells #[(.slice A1_0 l1_0.length c1_0), (.slice A1_1 l1_1.length c1_1), .int .i64 a1_2, .int .i64 a1_3, .int .i64 a1_4, .int .i64 a1_5, (.slice A1_6 l1_6.length c1_6)] 26 (0, 0))) ∧ Aside0 (Below w.heap.size w w'))
   case atStart => exact ⟨(0), tS_, H', ⟨Nat.le_refl _⟩, ⟨dB_ BK356⟩, ⟨dL1_ HB GE356⟩⟩
   case round =>
    clear H'; (try clear c4); (try clear c4b0); (try clear c4b1); (try clear c5); (try clear c5b0); (try clear c5b1); (try clear c5b2); (try clear hcz7_0 hcz7_1 hcz7_2 hcz7_3 hcz7_4 hcz7_5 hcz7_6 hfz7_0 hfz7_1 hfz7_2 hfz7_3 hfz7_4 hfz7_5 hfz7_6); (try clear hcz9_0 hcz9_1 hcz9_2 hcz9_3 hcz9_4 hcz9_5 hcz9_6 hfz9_0 hfz9_1 hfz9_2 hfz9_3 hfz9_4 hfz9_5 hfz9_6); obtain ⟨x25_1, rfl, HA, HK1, BK356, HB⟩ := hrel
    cases gk with
    | zero => exact absurd HA.out (by simp [hinterlandref14_Validate.l0])
    | succ k1 =>
     have H := HA.out; clear HA; simp only [hinterlandref14_Validate.l0] at H
     by_cases c10 : x25_1 < (l1_1.length : Int)
     ·rw [if_pos c10] at H; have c10b0 : decide (x25_1 < (l1_1.length : Int)) = true := decide_eq_true c10; clear c10
      by_cases c11 : 0 ≤ x25_1
      ·rw [if_pos c11] at H; have c11b0 : decide (0 ≤ x25_1) = true := decide_eq_true c11; clear c11
       by_cases c12 : x25_1 < (l1_1.length : Int)
       ·rw [if_pos c12] at H; have c12b0 : decide (x25_1 < (l1_1.length : Int)) = true := decide_eq_true c12; clear c12; have HC13 := Aside0.mk H; clear H; have p358 : 0 ≤ (x25_1 : Int) := of_decide_eq_true tW_; have q358 : x25_1 < (l1_1.length : Int) := of_decide_eq_true tW_; obtain ⟨ad358, e358, hx358_0⟩ := Kd.at_int HR1_1.out x25_1 p358 q358; cases e358; replace hx358_0 := bc_ HB hx358_0; replace p358 := eq_true p358; replace q358 := eq_true q358
        go_upto_region 9 with (fail)
        go_cut [48] (fun v48 wc => ∃ (kq : Nat) (x48_12 : Bool), v48 = .bool x48_12 ∧ Aside0 (hinterlandref14_Validate.j1 kq l0 l1_1 (l1_1.length : Int) x25_1 x48_12 l1_0 l1_1 a1_2 a1_3 a1_4 a1_5 l1_6 = some r) ∧ Aside0 (kq ≤ k1) ∧ Aside0 (wc.heap[gb356]? = some (.cells #[(.slice A1_0 l1_0.length c1_0), (.slice (some ad358) l1_1.length c1_1), .int .i64 a1_2, .int .i64 a1_3, .int .i64 a1_4, .int .i64 a1_5, (.slice A1_6 l1_6.length c1_6)] 26 (0, 0))) ∧ Aside0 (Below w.heap.size w wc))
        case first =>
         have H := HC13.out; clear HC13; replace H := Option.bind_eq_some_iff.mp H; obtain ⟨t359, A140, H⟩ := H; have A14 := Aside0.mk A140; clear A140
         by_cases c15 : t359 = true
         ·subst c15; rw [if_pos rfl] at H
          by_cases c16 : (rd l1_1 x25_1) = (-1)
          ·rw [if_pos c16] at H; have c16b0 : ((rd l1_1 x25_1) == (-1)) = true := beq_iff_eq.mpr c16; have c16b1 : ((rd l1_1 x25_1) != (-1)) = false := bne_eq_false_iff_eq.mpr c16; clear c16
           (first | rw [c16b0] | (simp only [i64_w, i32_w]; rw [c16b0]) | skip)
           have H' := Aside0.mk H; clear H
           go_wp2_with (first | ((with_reducible refine gate_callee (f := 35) rfl ?_); refine gL_ (some 31) Try.func35 #[.int .i64 (rd l1_1 x25_1), .int .i64 (-1), .int .i64 15] ?_ rfl; (with_reducible refine (hinterlandref14_within.calls (rd l1_1 x25_1) (-1) 15 true _ A14.out).mono ?_); rintro e w' ⟨rfl, ⟨nd, rfl⟩⟩; refine ⟨_, rfl, ?_⟩))
           go_meet
           case rel => exact ⟨_, (false), tS_, H', ⟨by have := HK1.out; first | omega | exact Nat.le_refl _⟩, ⟨dB_ BK356⟩, ⟨dL1_ HB GE356⟩⟩
          ·rw [if_neg c16] at H; have c16b0 : ((rd l1_1 x25_1) == (-1)) = false := beq_eq_false_iff_ne.mpr c16; have c16b1 : ((rd l1_1 x25_1) != (-1)) = true := bne_iff_ne.mpr c16
           (first | rw [c16b0] | (simp only [i64_w, i32_w]; rw [c16b0]) | skip)
           by_cases c17 : x25_1 < (l1_0.length : Int)
           ·rw [if_pos c17] at H; have c17b0 : decide (x25_1 < (l1_0.length : Int)) = true := decide_eq_true c17; clear c17
            by_cases c18 : 0 ≤ (rd l1_0 x25_1)
            ·rw [if_pos c18] at H; have c18b0 : decide (0 ≤ (rd l1_0 x25_1)) = true := decide_eq_true c18; clear c18
             by_cases c19 : (rd l1_0 x25_1) < (l0.length : Int)
             ·rw [if_pos c19] at H; have c19b0 : decide ((rd l1_0 x25_1) < (l0.length : Int)) = true := decide_eq_true c19; clear c19; have H' := Aside0.mk H; clear H
              go_wp2_with (first | ((with_reducible refine gate_callee (f := 35) rfl ?_); refine gL_ (some 31) Try.func35 #[.int .i64 (rd l1_1 x25_1), .int .i64 (-1), .int .i64 15] ?_ rfl; (with_reducible refine (hinterlandref14_within.calls (rd l1_1 x25_1) (-1) 15 true _ A14.out).mono ?_); rintro e w' ⟨rfl, ⟨nd, rfl⟩⟩; refine ⟨_, rfl, ?_⟩; obtain ⟨hcz20_0, hcz20_1, hcz20_2, hcz20_3, hcz20_4, hcz20_5, hcz20_6, hfz20_0, hfz20_1, hfz20_2, hfz20_3, hfz20_4, hfz20_5, hfz20_6⟩ := cs7_ BK356.out; have p360 : 0 ≤ (x25_1 : Int) := of_decide_eq_true tW_; have q360 : x25_1 < (l1_0.length : Int) := of_decide_eq_true tW_; obtain ⟨ad360, e360, hx360_0⟩ := Kd.at_int HR1_0.out x25_1 p360 q360; cases e360; replace hx360_0 := bc_ HB hx360_0; replace p360 := eq_true p360; replace q360 := eq_true q360; have p361 : 0 ≤ ((rd l1_0 x25_1) : Int) := of_decide_eq_true tW_; have q361 : (rd l1_0 x25_1) < (l0.length : Int) := of_decide_eq_true tW_; obtain ⟨ad361, e361, hx361_0, hx361_1, hx361_2, hx361_3, hx361_4, hx361_5, hx361_6, hx361_7, hx361_8, hx361_9, hx361_10, hx361_11, hx361_12, hx361_13⟩ := at_T52 HR0.out (rd l1_0 x25_1) p361 q361; cases e361; replace hx361_0 := bc_ HB hx361_0; replace hx361_1 := bc_ HB hx361_1; replace hx361_2 := bc_ HB hx361_2; replace hx361_3 := bc_ HB hx361_3; replace hx361_4 := bc_ HB hx361_4; replace hx361_5 := bc_ HB hx361_5; replace hx361_6 := bc_ HB hx361_6; replace hx361_7 := bc_ HB hx361_7; replace hx361_8 := bc_ HB hx361_8; replace hx361_9 := bc_ HB hx361_9; replace hx361_10 := bc_ HB hx361_10; replace hx361_11 := bc_ HB hx361_11; replace hx361_12 := bc_ HB hx361_12; replace hx361_13 := bc_ HB hx361_13; replace p361 := eq_true p361; replace q361 := eq_true q361))
              go_meet
              case rel => exact ⟨_, ((((rd_T52 l0 (rd l1_0 x25_1)).f7) == 0)), tS_, H', ⟨by have := HK1.out; first | omega | exact Nat.le_refl _⟩, ⟨dB_ BK356⟩, ⟨dL1_ HB GE356⟩⟩
             ·rw [if_neg c19] at H; exact absurd H (by simp)
            ·rw [if_neg c18] at H; exact absurd H (by simp)
           ·rw [if_neg c17] at H; exact absurd H (by simp)
         ·replace c15 := Bool.eq_false_iff.mpr c15; subst c15; rw [if_neg (show ¬ (false = true) by decide)] at H; have H' := Aside0.mk H; clear H
          go_wp2_with (first | ((with_reducible refine gate_callee (f := 35) rfl ?_); refine gL_ (some 31) Try.func35 #[.int .i64 (rd l1_1 x25_1), .int .i64 (-1), .int .i64 15] ?_ rfl; (with_reducible refine (hinterlandref14_within.calls (rd l1_1 x25_1) (-1) 15 false _ A14.out).mono ?_); rintro e w' ⟨rfl, ⟨nd, rfl⟩⟩; refine ⟨_, rfl, ?_⟩))
          go_meet
          case rel => exact ⟨_, (true), tS_, H', ⟨by have := HK1.out; first | omega | exact Nat.le_refl _⟩, ⟨dB_ BK356⟩, ⟨dL1_ HB GE356⟩⟩
        case rest =>
         clear HC13; (try clear c4); (try clear c4b0); (try clear c4b1); (try clear c5); (try clear c5b0); (try clear c5b1); (try clear c5b2); (try clear c10); (try clear c10b0); (try clear c11); (try clear c11b0); (try clear c12); (try clear c12b0); (try clear c16); (try clear c17); (try clear c18); (try clear c19); (try clear hcz7_0 hcz7_1 hcz7_2 hcz7_3 hcz7_4 hcz7_5 hcz7_6 hfz7_0 hfz7_1 hfz7_2 hfz7_3 hfz7_4 hfz7_5 hfz7_6); (try clear hcz9_0 hcz9_1 hcz9_2 hcz9_3 hcz9_4 hcz9_5 hcz9_6 hfz9_0 hfz9_1 hfz9_2 hfz9_3 hfz9_4 hfz9_5 hfz9_6); (try clear hx358_0); (try clear p358); (try clear q358); obtain ⟨kq, x48_12, rfl, HA, HJ12, BK356, HB⟩ := hcut
         cases kq with
         | zero => exact absurd HA.out (by simp [hinterlandref14_Validate.j1])
         | succ kj12 =>
          have H := HA.out; clear HA; simp only [hinterlandref14_Validate.j1] at H
          by_cases c21 : x48_12 = true
          ·subst c21; rw [if_pos rfl] at H; obtain rfl := Option.some.inj H; go_wp2
           go_ret
           exact ⟨tE_, dL1_ HB GE356⟩
          ·replace c21 := Bool.eq_false_iff.mpr c21; subst c21; rw [if_neg (show ¬ (false = true) by decide)] at H; have H' := Aside0.mk H; clear H; go_wp2
           go_roundg kj12
           case measure => have := HK1.out; have := HJ12.out; omega
           case rel => exact ⟨(wrap64 (x25_1 + 1)), tS_, H', ⟨by have := HK1.out; have := HJ12.out; omega⟩, ⟨dB_ BK356⟩, ⟨dL1_ HB GE356⟩⟩
       ·rw [if_neg c12] at H; exact absurd H (by simp)
      ·rw [if_neg c11] at H; exact absurd H (by simp)
     ·rw [if_neg c10] at H; have c10b0 : decide (x25_1 < (l1_1.length : Int)) = false := decide_eq_false c10; clear c10; have HC22 := Aside0.mk H; clear H
      go_upto_region 12 with (fail)
      go_cut [77] (fun v77 wc => ∃ (kq : Nat) (x77_21 : Bool), v77 = .bool x77_21 ∧ Aside0 (hinterlandref14_Validate.j2 kq x77_21 = some r) ∧ Aside0 (kq ≤ k1) ∧ Aside0 (wc.heap[gb356]? = some (.cells #[(.slice A1_0 l1_0.length c1_0), (.slice A1_1 l1_1.length c1_1), .int .i64 a1_2, .int .i64 a1_3, .int .i64 a1_4, .int .i64 a1_5, (.slice A1_6 l1_6.length c1_6)] 26 (0, 0))) ∧ Aside0 (Below w.heap.size w wc))
      case first =>
       have H := HC22.out; clear HC22; replace H := Option.bind_eq_some_iff.mp H; obtain ⟨t362, A230, H⟩ := H; have A23 := Aside0.mk A230; clear A230
       by_cases c24 : t362 = true
       ·subst c24; rw [if_pos rfl] at H; replace H := Option.bind_eq_some_iff.mp H; obtain ⟨t363, A250, H⟩ := H; have A25 := Aside0.mk A250; clear A250
        by_cases c26 : t363 = true
        ·subst c26; rw [if_pos rfl] at H; replace H := Option.bind_eq_some_iff.mp H; obtain ⟨t364, A270, H⟩ := H; have A27 := Aside0.mk A270; clear A270
         by_cases c28 : t364 = true
         ·subst c28; rw [if_pos rfl] at H; replace H := Option.bind_eq_some_iff.mp H; obtain ⟨t365, A290, H⟩ := H; have A29 := Aside0.mk A290; clear A290
          by_cases c30 : t365 = true
          ·subst c30; rw [if_pos rfl] at H; replace H := Option.bind_eq_some_iff.mp H; obtain ⟨t366, A310, H⟩ := H; have A31 := Aside0.mk A310; clear A310; have H' := Aside0.mk H; clear H; obtain ⟨hcz32_0, hcz32_1, hcz32_2, hcz32_3, hcz32_4, hcz32_5, hcz32_6, hfz32_0, hfz32_1, hfz32_2, hfz32_3, hfz32_4, hfz32_5, hfz32_6⟩ := cs7_ BK356.out
           go_wp2_with (first | ((with_reducible refine gate_callee (f := 35) rfl ?_); refine gL_ (some 52) Try.func35 #[.int .i64 a1_2, .int .i64 0, .int .i64 100000] ?_ rfl; (with_reducible refine (hinterlandref14_within.calls a1_2 0 100000 true _ A23.out).mono ?_); rintro e w' ⟨rfl, ⟨nd, rfl⟩⟩; refine ⟨_, rfl, ?_⟩) | (go_at_call 35; (with_reducible refine (hinterlandref14_within.calls a1_3 0 100000 true _ A25.out).mono ?_); rintro e w' ⟨rfl, ⟨nd, rfl⟩⟩) | (go_at_call 35; (with_reducible refine (hinterlandref14_within.calls a1_4 0 1000 true _ A27.out).mono ?_); rintro e w' ⟨rfl, ⟨nd, rfl⟩⟩) | (go_at_call 35; (with_reducible refine (hinterlandref14_within.calls a1_5 0 1000000 true _ A29.out).mono ?_); rintro e w' ⟨rfl, ⟨nd, rfl⟩⟩) | (go_at_call 36; (with_reducible refine (hinterlandref09_Validate.calls k1 _ _ l1_6 t366 _ ?side1 ?side2 A31.out).mono ?_); (case side1 => repeat (first | exact (Kd.C_below HR1_6.out (dL1_ HB GE356)) | (with_reducible refine Kd.C_alloc ?_ _) | (with_reducible refine Kd.C_drewN ?_ _) | (with_reducible refine Kd.C_drew ?_))); (case side2 => exact HC1_6.out); rintro e w33 ⟨rfl, hb⟩; replace BK356 := bk_ BK356 hb; replace HB := Aside0.mk (below_step (dL1_ HB GE356) hb)))
           go_meet
           case rel => exact ⟨_, ((t366 != 0)), tS_, H', ⟨by have := HK1.out; first | omega | exact Nat.le_refl _⟩, ⟨dB_ BK356⟩, ⟨dL1_ HB GE356⟩⟩
          ·replace c30 := Bool.eq_false_iff.mpr c30; subst c30; rw [if_neg (show ¬ (false = true) by decide)] at H; have H' := Aside0.mk H; clear H; obtain ⟨hcz34_0, hcz34_1, hcz34_2, hcz34_3, hcz34_4, hcz34_5, hcz34_6, hfz34_0, hfz34_1, hfz34_2, hfz34_3, hfz34_4, hfz34_5, hfz34_6⟩ := cs7_ BK356.out
           go_wp2_with (first | ((with_reducible refine gate_callee (f := 35) rfl ?_); refine gL_ (some 52) Try.func35 #[.int .i64 a1_2, .int .i64 0, .int .i64 100000] ?_ rfl; (with_reducible refine (hinterlandref14_within.calls a1_2 0 100000 true _ A23.out).mono ?_); rintro e w' ⟨rfl, ⟨nd, rfl⟩⟩; refine ⟨_, rfl, ?_⟩) | (go_at_call 35; (with_reducible refine (hinterlandref14_within.calls a1_3 0 100000 true _ A25.out).mono ?_); rintro e w' ⟨rfl, ⟨nd, rfl⟩⟩) | (go_at_call 35; (with_reducible refine (hinterlandref14_within.calls a1_4 0 1000 true _ A27.out).mono ?_); rintro e w' ⟨rfl, ⟨nd, rfl⟩⟩) | (go_at_call 35; (with_reducible refine (hinterlandref14_within.calls a1_5 0 1000000 false _ A29.out).mono ?_); rintro e w' ⟨rfl, ⟨nd, rfl⟩⟩))
           go_meet
           case rel => exact ⟨_, (true), tS_, H', ⟨by have := HK1.out; first | omega | exact Nat.le_refl _⟩, ⟨dB_ BK356⟩, ⟨dL1_ HB GE356⟩⟩
         ·replace c28 := Bool.eq_false_iff.mpr c28; subst c28; rw [if_neg (show ¬ (false = true) by decide)] at H; have H' := Aside0.mk H; clear H; obtain ⟨hcz35_0, hcz35_1, hcz35_2, hcz35_3, hcz35_4, hcz35_5, hcz35_6, hfz35_0, hfz35_1, hfz35_2, hfz35_3, hfz35_4, hfz35_5, hfz35_6⟩ := cs7_ BK356.out
          go_wp2_with (first | ((with_reducible refine gate_callee (f := 35) rfl ?_); refine gL_ (some 52) Try.func35 #[.int .i64 a1_2, .int .i64 0, .int .i64 100000] ?_ rfl; (with_reducible refine (hinterlandref14_within.calls a1_2 0 100000 true _ A23.out).mono ?_); rintro e w' ⟨rfl, ⟨nd, rfl⟩⟩; refine ⟨_, rfl, ?_⟩) | (go_at_call 35; (with_reducible refine (hinterlandref14_within.calls a1_3 0 100000 true _ A25.out).mono ?_); rintro e w' ⟨rfl, ⟨nd, rfl⟩⟩) | (go_at_call 35; (with_reducible refine (hinterlandref14_within.calls a1_4 0 1000 false _ A27.out).mono ?_); rintro e w' ⟨rfl, ⟨nd, rfl⟩⟩))
          go_meet
          case rel => exact ⟨_, (true), tS_, H', ⟨by have := HK1.out; first | omega | exact Nat.le_refl _⟩, ⟨dB_ BK356⟩, ⟨dL1_ HB GE356⟩⟩
        ·replace c26 := Bool.eq_false_iff.mpr c26; subst c26; rw [if_neg (show ¬ (false = true) by decide)] at H; have H' := Aside0.mk H; clear H; obtain ⟨hcz36_0, hcz36_1, hcz36_2, hcz36_3, hcz36_4, hcz36_5, hcz36_6, hfz36_0, hfz36_1, hfz36_2, hfz36_3, hfz36_4, hfz36_5, hfz36_6⟩ := cs7_ BK356.out
         go_wp2_with (first | ((with_reducible refine gate_callee (f := 35) rfl ?_); refine gL_ (some 52) Try.func35 #[.int .i64 a1_2, .int .i64 0, .int .i64 100000] ?_ rfl; (with_reducible refine (hinterlandref14_within.calls a1_2 0 100000 true _ A23.out).mono ?_); rintro e w' ⟨rfl, ⟨nd, rfl⟩⟩; refine ⟨_, rfl, ?_⟩) | (go_at_call 35; (with_reducible refine (hinterlandref14_within.calls a1_3 0 100000 false _ A25.out).mono ?_); rintro e w' ⟨rfl, ⟨nd, rfl⟩⟩))
         go_meet
         case rel => exact ⟨_, (true), tS_, H', ⟨by have := HK1.out; first | omega | exact Nat.le_refl _⟩, ⟨dB_ BK356⟩, ⟨dL1_ HB GE356⟩⟩
       ·replace c24 := Bool.eq_false_iff.mpr c24; subst c24; rw [if_neg (show ¬ (false = true) by decide)] at H; have H' := Aside0.mk H; clear H; obtain ⟨hcz37_0, hcz37_1, hcz37_2, hcz37_3, hcz37_4, hcz37_5, hcz37_6, hfz37_0, hfz37_1, hfz37_2, hfz37_3, hfz37_4, hfz37_5, hfz37_6⟩ := cs7_ BK356.out
        go_wp2_with (first | ((with_reducible refine gate_callee (f := 35) rfl ?_); refine gL_ (some 52) Try.func35 #[.int .i64 a1_2, .int .i64 0, .int .i64 100000] ?_ rfl; (with_reducible refine (hinterlandref14_within.calls a1_2 0 100000 false _ A23.out).mono ?_); rintro e w' ⟨rfl, ⟨nd, rfl⟩⟩; refine ⟨_, rfl, ?_⟩))
        go_meet
        case rel => exact ⟨_, (true), tS_, H', ⟨by have := HK1.out; first | omega | exact Nat.le_refl _⟩, ⟨dB_ BK356⟩, ⟨dL1_ HB GE356⟩⟩
      case rest =>
       clear HC22; (try clear c4); (try clear c4b0); (try clear c4b1); (try clear c5); (try clear c5b0); (try clear c5b1); (try clear c5b2); (try clear c10); (try clear c10b0); (try clear c11); (try clear c12); (try clear c16); (try clear c17); (try clear c18); (try clear c19); (try clear hcz7_0 hcz7_1 hcz7_2 hcz7_3 hcz7_4 hcz7_5 hcz7_6 hfz7_0 hfz7_1 hfz7_2 hfz7_3 hfz7_4 hfz7_5 hfz7_6); (try clear hcz9_0 hcz9_1 hcz9_2 hcz9_3 hcz9_4 hcz9_5 hcz9_6 hfz9_0 hfz9_1 hfz9_2 hfz9_3 hfz9_4 hfz9_5 hfz9_6); obtain ⟨kq, x77_21, rfl, HA, HJ21, BK356, HB⟩ := hcut
       cases kq with
       | zero => exact absurd HA.out (by simp [hinterlandref14_Validate.j2])
       | succ kj21 =>
        have H := HA.out; clear HA; simp only [hinterlandref14_Validate.j2] at H
        by_cases c38 : x77_21 = true
        ·subst c38; rw [if_pos rfl] at H; obtain rfl := Option.some.inj H; go_wp2
         go_ret
         exact ⟨tE_, dL1_ HB GE356⟩
        ·replace c38 := Bool.eq_false_iff.mpr c38; subst c38; rw [if_neg (show ¬ (false = true) by decide)] at H; obtain rfl := Option.some.inj H; go_wp2
         go_ret
         exact ⟨tE_, dL1_ HB GE356⟩
  ·rw [if_neg c5] at H; have c5b0 : ((l1_1.length : Int) == (l1_0.length : Int)) = false := beq_eq_false_iff_ne.mpr c5; have c5b1 : ((l1_1.length : Int) != (l1_0.length : Int)) = true := bne_iff_ne.mpr c5; have c5b2 : (l1_1.length == l1_0.length) = false := by first | simpa using c5 | (simp at c5 ⊢; omega)
   obtain rfl := Option.some.inj H
   go_enter Try.func23, Try.ntmps23
   go_wp2_with (first | ((with_reducible refine gate_dst (N := 3) rfl ?_); refine bx_ (N := 3) (cs := #[.slice A1_0 l1_0.length c1_0, .slice A1_1 l1_1.length c1_1, .int .i64 a1_2, .int .i64 a1_3, .int .i64 a1_4, .int .i64 a1_5, .slice A1_6 l1_6.length c1_6]) (t := 26) ?_; intro gb356 hg w39 hbox hb; have BK356 := Aside0.mk (hbox); have GW356 := Aside0.mk ((dS_ hg (dL_ HB) : w.heap.size ≤ gb356)); have GE356 := GW356; replace HB := Aside0.mk (below_step (dL_ HB) hb); clear hb hbox hg; obtain ⟨hcz40_0, hcz40_1, hcz40_2, hcz40_3, hcz40_4, hcz40_5, hcz40_6, hfz40_0, hfz40_1, hfz40_2, hfz40_3, hfz40_4, hfz40_5, hfz40_6⟩ := cs7_ BK356.out) | ((with_reducible refine gate_callee (f := 34) rfl ?_); refine gL_ (some 11) Try.func34 #[.slice A0 l0.length c0, .slice A1_0 l1_0.length c1_0] ?_ rfl; (with_reducible refine (hinterlandref14_coupled.calls k _ _ l0 _ _ l1_0 t357 _ ?side1 ?side2 ?side3 ?side4 A3.out).mono ?_); (case side1 => exact dC_ HR0 HB); (case side2 => exact HC0.out); (case side3 => exact dC_ HR1_0 HB); (case side4 => exact HC1_0.out); rintro e w41 ⟨rfl, hb⟩; refine ⟨_, rfl, ?_⟩; replace BK356 := bk_ BK356 hb; replace HB := Aside0.mk (below_step (dL1_ HB GE356) hb); obtain ⟨hcz42_0, hcz42_1, hcz42_2, hcz42_3, hcz42_4, hcz42_5, hcz42_6, hfz42_0, hfz42_1, hfz42_2, hfz42_3, hfz42_4, hfz42_5, hfz42_6⟩ := cs7_ BK356.out))
   go_ret
   exact ⟨tE_, dL1_ HB GE356⟩
 ·rw [if_neg c4] at H; have c4b0 : (t357 == 0) = false := beq_eq_false_iff_ne.mpr c4; have c4b1 : (t357 != 0) = true := bne_iff_ne.mpr c4; obtain rfl := Option.some.inj H
  go_enter Try.func23, Try.ntmps23
  go_wp2_with (first | ((with_reducible refine gate_dst (N := 3) rfl ?_); refine bx_ (N := 3) (cs := #[.slice A1_0 l1_0.length c1_0, .slice A1_1 l1_1.length c1_1, .int .i64 a1_2, .int .i64 a1_3, .int .i64 a1_4, .int .i64 a1_5, .slice A1_6 l1_6.length c1_6]) (t := 26) ?_; intro gb356 hg w43 hbox hb; have BK356 := Aside0.mk (hbox); have GW356 := Aside0.mk ((dS_ hg (dL_ HB) : w.heap.size ≤ gb356)); have GE356 := GW356; replace HB := Aside0.mk (below_step (dL_ HB) hb); clear hb hbox hg; obtain ⟨hcz44_0, hcz44_1, hcz44_2, hcz44_3, hcz44_4, hcz44_5, hcz44_6, hfz44_0, hfz44_1, hfz44_2, hfz44_3, hfz44_4, hfz44_5, hfz44_6⟩ := cs7_ BK356.out) | ((with_reducible refine gate_callee (f := 34) rfl ?_); refine gL_ (some 11) Try.func34 #[.slice A0 l0.length c0, .slice A1_0 l1_0.length c1_0] ?_ rfl; (with_reducible refine (hinterlandref14_coupled.calls k _ _ l0 _ _ l1_0 t357 _ ?side1 ?side2 ?side3 ?side4 A3.out).mono ?_); (case side1 => exact dC_ HR0 HB); (case side2 => exact HC0.out); (case side3 => exact dC_ HR1_0 HB); (case side4 => exact HC1_0.out); rintro e w45 ⟨rfl, hb⟩; refine ⟨_, rfl, ?_⟩; replace BK356 := bk_ BK356 hb; replace HB := Aside0.mk (below_step (dL1_ HB GE356) hb)))
  go_ret
  exact ⟨tE_, dL1_ HB GE356⟩

end Go.Proofs.Ytgnahbjpockdmab.Q
namespace Go.Proofs.Ytgnahbjpockdmab.Q
open Go.RowKit Go.Proofs.YtgnahbjpockdmabPrs Go.Proofs.YtgnahbjpockdmabOwn Go.Proofs.YtgnahbjpockdmabW.PrintWords Go.Proofs.YtgnahbjpockdmabW.PrintLast Go.Proofs.YtgnahbjpockdmabW.PrintMore
attribute [local go_sem] max2_int min2_int max_two min_two max_three min_three max_four min_four   -- for this text's walks alone
set_option linter.unusedVariables false
set_option linter.unusedSimpArgs false

/-! ### hinterlandref14_again: function 24 -/
def hinterlandref14_again.f (l0_0 : List Int) (l0_1 : List Int) (a0_2 : Int) (a0_3 : Int) (a0_4 : Int) (a0_5 : Int) (l0_6 : List (S49)) : Option (List Int × List Int × Int × Int × Int × Int × (List (S49))) := if ([] : List Int).length + l0_0.length < 17592186044416 then (if ([] : List Int).length + l0_1.length < 17592186044416 then (if ([] : List (S49)).length + l0_6.length < 2932031007402 then (some ((([] : List Int) ++ l0_0), (([] : List Int) ++ l0_1), a0_2, a0_3, a0_4, a0_5, (([] : List (S49)) ++ l0_6))) else (none)) else (none)) else (none)
set_option maxHeartbeats 8000000 in
set_option maxRecDepth 100000 in
theorem hinterlandref14_again.calls (A0_0 : Option Addr) (c0_0 : Nat) (l0_0 : List Int) (A0_1 : Option Addr) (c0_1 : Nat) (l0_1 : List Int) (a0_2 : Int) (a0_3 : Int) (a0_4 : Int) (a0_5 : Int) (A0_6 : Option Addr) (c0_6 : Nat) (l0_6 : List (S49)) (r1 : List Int) (r2 : List Int) (r3 : Int) (r4 : Int) (r5 : Int) (r6 : Int) (r7 : List (S49)) (w : World) (hr0_0 : Kd.C (Kd.int .i64) w A0_0 l0_0.length l0_0) (hc0_0 : l0_0.length ≤ c0_0) (hr0_1 : Kd.C (Kd.int .i64) w A0_1 l0_1.length l0_1) (hc0_1 : l0_1.length ≤ c0_1) (hr0_6 : Kd.C k49 w A0_6 l0_6.length l0_6) (hc0_6 : l0_6.length ≤ c0_6) (h : hinterlandref14_again.f l0_0 l0_1 a0_2 a0_3 a0_4 a0_5 l0_6 = some (r1, r2, r3, r4, r5, r6, r7)) :
    Calls Try.prog 24 #[.agg #[.slice A0_0 l0_0.length c0_0, .slice A0_1 l0_1.length c0_1, .int .i64 a0_2, .int .i64 a0_3, .int .i64 a0_4, .int .i64 a0_5, .slice A0_6 l0_6.length c0_6]] w fun e w' => ∃ v0_ v1_ v6_ : Value, e = .returned (.agg #[v0_, v1_, .int .i64 r3, .int .i64 r4, .int .i64 r5, .int .i64 r6, v6_]) ∧ Kd.R (Kd.int .i64) 3 w' w.heap.size (fun k_ => some k_ ≠ (v1_ : Value).ownBlock) v0_ r1 ∧ Kd.R (Kd.int .i64) 3 w' w.heap.size (fun k_ => some k_ ≠ (v0_ : Value).ownBlock) v1_ r2 ∧ Kd.R k49 49 w' w.heap.size (fun _ => True) v6_ r7 ∧ Below w.heap.size w w' := by
 have hu26 := Try.underlying26; have HR0_0 := Aside0.mk hr0_0; have HC0_0 := Aside0.mk hc0_0; clear hr0_0 hc0_0; have HR0_1 := Aside0.mk hr0_1; have HC0_1 := Aside0.mk hc0_1; clear hr0_1 hc0_1; have HR0_6 := Aside0.mk hr0_6; have HC0_6 := Aside0.mk hc0_6; clear hr0_6 hc0_6; have HB := Aside0.mk (Below.refl w.heap.size w); have H : (if ([] : List Int).length + l0_0.length < 17592186044416 then (if ([] : List Int).length + l0_1.length < 17592186044416 then (if ([] : List (S49)).length + l0_6.length < 2932031007402 then (some ((([] : List Int) ++ l0_0), (([] : List Int) ++ l0_1), a0_2, a0_3, a0_4, a0_5, (([] : List (S49)) ++ l0_6))) else (none)) else (none)) else (none)) = some (r1, r2, r3, r4, r5, r6, r7) := h; clear h
 by_cases c2 : ([] : List Int).length + l0_0.length < 17592186044416
 ·rw [if_pos c2] at H; have LMc2 := Aside0.mk c2; clear c2; obtain ⟨y369, hy369⟩ : ∃ y_ : List Int, y_ = (([] : List Int) ++ l0_0) := ⟨_, rfl⟩; replace H : (if ([] : List Int).length + l0_1.length < 17592186044416 then (if ([] : List (S49)).length + l0_6.length < 2932031007402 then (some (y369, (([] : List Int) ++ l0_1), a0_2, a0_3, a0_4, a0_5, (([] : List (S49)) ++ l0_6))) else (none)) else (none)) = some (r1, r2, r3, r4, r5, r6, r7) := by first | (rw [hy369]; with_reducible exact H) | (have H2_ := (Option.bind_some _ _).symm.trans H; rw [hy369]; with_reducible exact H2_) | (have H2_ := (Option.bind_some _ _).symm.trans H; with_reducible exact H2_) | with_reducible exact H | (rw [hy369]; exact H) | exact H
  have Ny369 := Aside0.mk hy369; clear hy369
  by_cases c3 : ([] : List Int).length + l0_1.length < 17592186044416
  ·rw [if_pos c3] at H; have LMc3 := Aside0.mk c3; clear c3; obtain ⟨y372, hy372⟩ : ∃ y_ : List Int, y_ = (([] : List Int) ++ l0_1) := ⟨_, rfl⟩; replace H : (if ([] : List (S49)).length + l0_6.length < 2932031007402 then (some (y369, y372, a0_2, a0_3, a0_4, a0_5, (([] : List (S49)) ++ l0_6))) else (none)) = some (r1, r2, r3, r4, r5, r6, r7) := by first | (rw [hy372]; with_reducible exact H) | (have H2_ := (Option.bind_some _ _).symm.trans H; rw [hy372]; with_reducible exact H2_) | (have H2_ := (Option.bind_some _ _).symm.trans H; with_reducible exact H2_) | with_reducible exact H | (rw [hy372]; exact H) | exact H
   have Ny372 := Aside0.mk hy372; clear hy372
   by_cases c4 : ([] : List (S49)).length + l0_6.length < 2932031007402
   ·rw [if_pos c4] at H; have LMc4 := Aside0.mk c4; clear c4; obtain ⟨y375, hy375⟩ : ∃ y_ : List (S49), y_ = (([] : List (S49)) ++ l0_6) := ⟨_, rfl⟩; replace H : (some (y369, y372, a0_2, a0_3, a0_4, a0_5, y375)) = some (r1, r2, r3, r4, r5, r6, r7) := by first | (rw [hy375]; with_reducible exact H) | (have H2_ := (Option.bind_some _ _).symm.trans H; rw [hy375]; with_reducible exact H2_) | (have H2_ := (Option.bind_some _ _).symm.trans H; with_reducible exact H2_) | with_reducible exact H | (rw [hy375]; exact H) | exact H
    have Ny375 := Aside0.mk hy375; clear hy375; simp only [Option.some.injEq, Prod.mk.injEq] at H; obtain ⟨rfl, rfl, rfl, rfl, rfl, rfl, rfl⟩ := H
    go_enter Try.func24, Try.ntmps24
    go_wp2_with (first | ((with_reducible refine gate_dst (N := 1) rfl ?_); refine bx_ (N := 1) (cs := #[.slice A0_0 l0_0.length c0_0, .slice A0_1 l0_1.length c0_1, .int .i64 a0_2, .int .i64 a0_3, .int .i64 a0_4, .int .i64 a0_5, .slice A0_6 l0_6.length c0_6]) (t := 26) ?_; intro gb367 hg w5 hbox hb; have BK367 := Aside0.mk (hbox); have GW367 := Aside0.mk ((dS_ hg (dL_ HB) : w.heap.size ≤ gb367)); have GE367 := GW367; replace HB := Aside0.mk (below_step (dL_ HB) hb); clear hb hbox hg) | ((with_reducible refine gate_dst (N := 2) rfl ?_); refine bx_ (N := 2) (cs := #[.slice none 0 0, .slice none 0 0, .int .i64 0, .int .i64 0, .int .i64 0, .int .i64 0, .slice none 0 0]) (t := 26) ?_; intro gb368 hg w6 hbox hb; have BK368 := Aside0.mk (hbox); have GW368 := Aside0.mk ((dS_ hg (dL1_ HB GE367) : w.heap.size ≤ gb368)); have GE368 := GW368; replace HB := Aside0.mk (below_step (dL1_ HB GE367) hb); have NB367_368 := nb_ hg BK367; have NB368_367 := nc_ hg BK367; replace BK367 := bk_ BK367 hb; clear hb hbox hg; have hnb7 := NB367_368.out; have hnc7 := NB368_367.out; obtain ⟨hcz8_0, hcz8_1, hcz8_2, hcz8_3, hcz8_4, hcz8_5, hcz8_6, hfz8_0, hfz8_1, hfz8_2, hfz8_3, hfz8_4, hfz8_5, hfz8_6⟩ := cs7_ BK367.out) | ((with_reducible refine gate_builtin (b := .append) (xs := #[.const (.slice none 0 0), .tmp 4]) rfl ?_); at_builtin; refine Kd.R_append_rows (Kd.int .i64) (w0 := w) w.heap.size rfl (.const (.slice none 0 0)) (.tmp 4) 23 3 (.int .i64 0) 8 rfl Try.underlying23 info3 rfl (by decide) (by omega) (.slice none 0 0) ([] : List Int) l0_0 _ _ _ (fun _ => True) (fun _ => False) rfl rfl ?aO ?aR (fun _ _ h => h) (fun _ h => h.elim) ?aF ?aB ?aS ?aL ?_; (case aR => exact dC_ HR0_0 HB); (case aB => exact (dL2_ HB GE367 GE368)); (case aF => exact (fun _ _ => trivial)); (case aO => exact ((Kd.R_nil _ _ _ _ (fun _ => True)))); (case aS => exact (below_size (dL2_ HB GE367 GE368))); (case aL => have := LMc2.out; omega); intro v370 w9 ho hb hg hat; rw [← Ny369.out] at ho; replace BK367 := Aside0.mk (blk_grown (g := gb367) (o := .cells #[.slice A0_0 l0_0.length c0_0, .slice A0_1 l0_1.length c0_1, .int .i64 a0_2, .int .i64 a0_3, .int .i64 a0_4, .int .i64 a0_5, .slice A0_6 l0_6.length c0_6] 26 (0, 0)) (dB_ BK367) hg (by simp [Value.ownBlock])); replace BK368 := Aside0.mk (blk_grown (g := gb368) (o := .cells #[.slice none 0 0, .slice none 0 0, .int .i64 0, .int .i64 0, .int .i64 0, .int .i64 0, .slice none 0 0] 26 (0, 0)) (dB_ BK368) hg (by simp [Value.ownBlock])); replace HB := Aside0.mk (hb); have HO371 := Aside0.mk (ho); clear ho hb hg hat; obtain ⟨Ao10, co10, eo10⟩ := Kd.R_slice HO371.out; subst eo10; obtain ⟨hcz11_0, hcz11_1, hcz11_2, hcz11_3, hcz11_4, hcz11_5, hcz11_6, hfz11_0, hfz11_1, hfz11_2, hfz11_3, hfz11_4, hfz11_5, hfz11_6⟩ := cs7_ BK367.out) | ((with_reducible refine gate_builtin (b := .append) (xs := #[.const (.slice none 0 0), .tmp 8]) rfl ?_); at_builtin; refine Kd.R_append_rows (Kd.int .i64) (w0 := w) w.heap.size rfl (.const (.slice none 0 0)) (.tmp 8) 23 3 (.int .i64 0) 8 rfl Try.underlying23 info3 rfl (by decide) (by omega) (.slice none 0 0) ([] : List Int) l0_1 _ _ _ (fun k_ => some k_ ≠ (.slice Ao10 y369.length co10 : Value).ownBlock) (fun _ => False) rfl rfl ?aO ?aR (fun _ _ h => h) (fun _ h => h.elim) ?aF ?aB ?aS ?aL ?_; (case aR => exact Kd.C_below HR0_1.out (dL2_ HB GE367 GE368)); (case aB => exact (dL2_ HB GE367 GE368)); (case aF => exact (fun k_ hk => Kd.fresh' (Kd.R_lt (by (with_reducible repeat (first | apply Kd.R_alloc | apply Kd.R_drewN | apply Kd.R_drew)); exact (Kd.R_mono (fz1_ HO371 BK367) (fun _ h_ => h_.1)))) k_ hk)); (case aO => exact ((Kd.R_nil _ _ _ _ (fun k_ => some k_ ≠ (.slice Ao10 y369.length co10 : Value).ownBlock)))); (case aS => exact (below_size (dL2_ HB GE367 GE368))); (case aL => have := LMc3.out; omega); intro v373 w12 ho hb hg hat; rw [← Ny372.out] at ho; replace BK368 := Aside0.mk (blk_grown (g := gb368) (o := .cells #[.slice none 0 0, .slice none 0 0, .int .i64 0, .int .i64 0, .int .i64 0, .int .i64 0, .slice none 0 0] 26 (0, 0)) (bz_ BK368) hg (by simp [Value.ownBlock])); replace HO371 := Aside0.mk (Kd.R_after (Kd.R_apart_nil (by (with_reducible repeat (first | apply Kd.R_alloc | apply Kd.R_drewN | apply Kd.R_drew)); exact (Kd.R_mono (fz1_ HO371 BK367) (fun _ h_ => h_.1)))) hg hat); replace BK367 := Aside0.mk (blk_grown (g := gb367) (o := .cells #[.slice Ao10 y369.length co10, .slice A0_1 l0_1.length c0_1, .int .i64 a0_2, .int .i64 a0_3, .int .i64 a0_4, .int .i64 a0_5, .slice A0_6 l0_6.length c0_6] 26 (0, 0)) (bz_ BK367) hg (by simp [Value.ownBlock])); replace HB := Aside0.mk (hb); have HO374 := Aside0.mk (ho); clear ho hb hg hat; obtain ⟨Ao13, co13, eo13⟩ := Kd.R_slice HO374.out; subst eo13; obtain ⟨hcz14_0, hcz14_1, hcz14_2, hcz14_3, hcz14_4, hcz14_5, hcz14_6, hfz14_0, hfz14_1, hfz14_2, hfz14_3, hfz14_4, hfz14_5, hfz14_6⟩ := cs7_ BK367.out) | ((with_reducible refine gate_builtin (b := .append) (xs := #[.const (.slice none 0 0), .tmp 12]) rfl ?_); at_builtin; refine Kd.R_append_rows k49 (w0 := w) w.heap.size rfl (.const (.slice none 0 0)) (.tmp 12) 24 49 (.agg #[(.int .i64 0), (.int .i64 0), (.int .i64 0), (.int .i64 0), (.int .i64 0), (.int .i64 0)]) 48 rfl Try.underlying24 info49 rfl (by decide) (by omega) (.slice none 0 0) ([] : List (S49)) l0_6 _ _ _ (fun _ => True) (fun _ => False) rfl rfl ?aO ?aR (fun _ _ h => h) (fun _ h => h.elim) ?aF ?aB ?aS ?aL ?_; (case aR => exact Kd.C_below HR0_6.out (dL2_ HB GE367 GE368)); (case aB => exact (dL2_ HB GE367 GE368)); (case aF => exact (fun _ _ => trivial)); (case aO => exact ((Kd.R_nil _ _ _ _ (fun _ => True)))); (case aS => exact (below_size (dL2_ HB GE367 GE368))); (case aL => have := LMc4.out; omega); intro v376 w15 ho hb hg hat; rw [← Ny375.out] at ho; replace BK368 := Aside0.mk (blk_grown (g := gb368) (o := .cells #[.slice none 0 0, .slice none 0 0, .int .i64 0, .int .i64 0, .int .i64 0, .int .i64 0, .slice none 0 0] 26 (0, 0)) (bz_ BK368) hg (by simp [Value.ownBlock])); replace HO371 := Aside0.mk (Kd.R_grown (by (with_reducible repeat (first | apply Kd.R_alloc | apply Kd.R_drewN | apply Kd.R_drew)); exact (Kd.R_mono (fz1_ HO371 BK367) (fun _ h_ => h_.1))) hg (fun _ _ => by simp [Value.ownBlock])); replace HO374 := Aside0.mk (Kd.R_grown (by (with_reducible repeat (first | apply Kd.R_alloc | apply Kd.R_drewN | apply Kd.R_drew)); exact (Kd.R_mono (fz1_ HO374 BK367) (fun _ h_ => h_.1))) hg (fun _ _ => by simp [Value.ownBlock])); replace BK367 := Aside0.mk (blk_grown (g := gb367) (o := .cells #[.slice Ao10 y369.length co10, .slice Ao13 y372.length co13, .int .i64 a0_2, .int .i64 a0_3, .int .i64 a0_4, .int .i64 a0_5, .slice A0_6 l0_6.length c0_6] 26 (0, 0)) (bz_ BK367) hg (by simp [Value.ownBlock])); replace HB := Aside0.mk (hb); have HO377 := Aside0.mk (ho); clear ho hb hg hat; obtain ⟨Ao16, co16, eo16⟩ := Kd.R_slice HO377.out; subst eo16; obtain ⟨hcz17_0, hcz17_1, hcz17_2, hcz17_3, hcz17_4, hcz17_5, hcz17_6, hfz17_0, hfz17_1, hfz17_2, hfz17_3, hfz17_4, hfz17_5, hfz17_6⟩ := cs7_ BK367.out; obtain ⟨hcz18_0, hcz18_1, hcz18_2, hcz18_3, hcz18_4, hcz18_5, hcz18_6, hfz18_0, hfz18_1, hfz18_2, hfz18_3, hfz18_4, hfz18_5, hfz18_6⟩ := cs7_ BK368.out))
    refine bodyPost_ret (results_cell_row rfl _ _ gb368 26 #[.slice Ao10 y369.length co10, .slice Ao13 y372.length co13, .int .i64 a0_2, .int .i64 a0_3, .int .i64 a0_4, .int .i64 a0_5, .slice Ao16 y375.length co16] (0, 0) _ rfl (bz_ BK368) Try.underlying26 rfl (by kernel_rfl)) rfl ?_; exact ⟨_, _, _, tE_, by (with_reducible repeat (first | apply Kd.R_alloc | apply Kd.R_drewN | apply Kd.R_drew)); exact Kd.R_mono (fz2_ HO371 BK367 BK368) (fun _ hk => hk.1.1.2), by (with_reducible repeat (first | apply Kd.R_alloc | apply Kd.R_drewN | apply Kd.R_drew)); exact Kd.R_mono (fz2_ HO374 BK367 BK368) (fun _ hk => hk.1.1), by (with_reducible repeat (first | apply Kd.R_alloc | apply Kd.R_drewN | apply Kd.R_drew)); exact Kd.R_mono (fz2_ HO377 BK367 BK368) (fun _ hk => trivial), dL2_ HB GE367 GE368⟩
   ·rw [if_neg c4] at H; exact absurd H (by simp)
  ·rw [if_neg c3] at H; exact absurd H (by simp)
 ·rw [if_neg c2] at H; exact absurd H (by simp)

end Go.Proofs.Ytgnahbjpockdmab.Q
namespace Go.Proofs.Ytgnahbjpockdmab.Q
open Go.RowKit Go.Proofs.YtgnahbjpockdmabPrs Go.Proofs.YtgnahbjpockdmabOwn Go.Proofs.YtgnahbjpockdmabW.PrintWords Go.Proofs.YtgnahbjpockdmabW.PrintLast Go.Proofs.YtgnahbjpockdmabW.PrintMore
attribute [local go_sem] max2_int min2_int max_two min_two max_three min_three max_four min_four   -- for this text's walks alone
set_option linter.unusedVariables false
set_option linter.unusedSimpArgs false

attribute [local go_sem high] eqA49
/-! ### api_Parcel: function 16 -/
def api_Parcel.l0 : Nat → List (S49) → List (S49) → Int → Option (Bool)
  | 0, _, _, _ => none
  | k + 1, x0, x1, x5 => if x5 < (x0.length : Int) then (if 0 ≤ x5 then (if x5 < (x1.length : Int) then (if (!(((rd_T49 x0 x5).f0) == ((rd_T49 x1 x5).f0)) || (!(((rd_T49 x0 x5).f1) == ((rd_T49 x1 x5).f1)) || (!(((rd_T49 x0 x5).f2) == ((rd_T49 x1 x5).f2)) || (!(((rd_T49 x0 x5).f3) == ((rd_T49 x1 x5).f3)) || (!(((rd_T49 x0 x5).f4) == ((rd_T49 x1 x5).f4)) || (!(((rd_T49 x0 x5).f5) == ((rd_T49 x1 x5).f5)))))))) = true then (some false) else (api_Parcel.l0 k x0 x1 (wrap64 (x5 + 1)))) else (none)) else (none)) else (some true)
def api_Parcel.f (k : Nat) (l0 : List (S49)) (l1 : List (S49)) : Option (Bool) := if (l0.length : Int) = (l1.length : Int) then (api_Parcel.l0 k l0 l1 0) else (some false)
theorem api_Parcel.mono_l : ∀ k, (∀ y0 y1 y2, LeO (api_Parcel.l0 k y0 y1 y2) (api_Parcel.l0 (k + 1) y0 y1 y2))
  | 0 => fun _ _ _ r h => by simp [api_Parcel.l0] at h
  | k + 1 => by
    have ih0 := api_Parcel.mono_l k
    · intro y0 y1 y2
      unfold api_Parcel.l0
      repeat' first
      | (with_reducible first | apply ih0 | exact LeO.refl _ | exact LeO.none _ | refine LeO.ite ?_ ?_ | refine LeO.bind ?_ (fun _ => ?_))
theorem api_Parcel.mono : ∀ a0 a1 k, LeO (api_Parcel.f k a0 a1) (api_Parcel.f (k + 1) a0 a1) := by
  intro a0 a1 k; have ih0 := api_Parcel.mono_l k
  unfold api_Parcel.f
  repeat' first
      | (with_reducible first | apply ih0 | exact LeO.refl _ | exact LeO.none _ | refine LeO.ite ?_ ?_ | refine LeO.bind ?_ (fun _ => ?_))
set_option maxHeartbeats 8000000 in
set_option maxRecDepth 100000 in
theorem api_Parcel.calls (k : Nat) (A0 : Option Addr) (c0 : Nat) (l0 : List (S49)) (A1 : Option Addr) (c1 : Nat) (l1 : List (S49)) (r : Bool) (w : World) (hr0 : Kd.C k49 w A0 l0.length l0) (hc0 : l0.length ≤ c0) (hr1 : Kd.C k49 w A1 l1.length l1) (hc1 : l1.length ≤ c1) (h : api_Parcel.f k l0 l1 = some r) :
    Calls Try.prog 16 #[.slice A0 l0.length c0, .slice A1 l1.length c1] w fun e w' => e = .returned (.bool r) ∧ Drawn0 w w' := by
 have hu49 := Try.underlying49; have HR0 := Aside0.mk hr0; have HC0 := Aside0.mk hc0; clear hr0 hc0; have HR1 := Aside0.mk hr1; have HC1 := Aside0.mk hc1; clear hr1 hc1; have H : (if (l0.length : Int) = (l1.length : Int) then (api_Parcel.l0 k l0 l1 0) else (some false)) = some r := h; clear h
 by_cases c3 : (l0.length : Int) = (l1.length : Int)
 ·rw [if_pos c3] at H; have c3b0 : ((l0.length : Int) == (l1.length : Int)) = true := beq_iff_eq.mpr c3; have c3b1 : ((l0.length : Int) != (l1.length : Int)) = false := bne_eq_false_iff_eq.mpr c3; have c3b2 : (l0.length == l1.length) = true := by first | simpa using c3 | (simp at c3 ⊢; omega)
  clear c3; have H' := Aside0.mk H; clear H
  go_enter Try.func16, Try.ntmps16
  go_wp2
  repeat (go_quiet (fail); try go_wp2)
  go_loopg [5] k (fun kq v5 w' => ∃ (x5_1 : Int), v5 = .int .i64 x5_1 ∧ Aside0 (api_Parcel.l0 kq l0 l1 x5_1 = some r) ∧ Aside0 (kq ≤ k) ∧ Drawn0 w w')
  case atStart => exact ⟨(0), tS_, H', ⟨Nat.le_refl _⟩, by repeat (first | exact Drawn0.refl _ | apply Drawn0.step)⟩
  case round =>
   clear H'; (try clear c1); (try clear c3); (try clear c3b0); (try clear c3b1); (try clear c3b2); obtain ⟨x5_1, rfl, HA, HK1, ⟨m1, rfl⟩⟩ := hrel
   cases gk with
   | zero => exact absurd HA.out (by simp [api_Parcel.l0])
   | succ k1 =>
    have H := HA.out; clear HA; simp only [api_Parcel.l0] at H
    by_cases c4 : x5_1 < (l0.length : Int)
    ·rw [if_pos c4] at H; have c4b0 : decide (x5_1 < (l0.length : Int)) = true := decide_eq_true c4; clear c4
     by_cases c5 : 0 ≤ x5_1
     ·rw [if_pos c5] at H; have c5b0 : decide (0 ≤ x5_1) = true := decide_eq_true c5; clear c5
      by_cases c6 : x5_1 < (l1.length : Int)
      ·rw [if_pos c6] at H; have c6b0 : decide (x5_1 < (l1.length : Int)) = true := decide_eq_true c6; clear c6
       by_cases c7 : (!(((rd_T49 l0 x5_1).f0) == ((rd_T49 l1 x5_1).f0)) || (!(((rd_T49 l0 x5_1).f1) == ((rd_T49 l1 x5_1).f1)) || (!(((rd_T49 l0 x5_1).f2) == ((rd_T49 l1 x5_1).f2)) || (!(((rd_T49 l0 x5_1).f3) == ((rd_T49 l1 x5_1).f3)) || (!(((rd_T49 l0 x5_1).f4) == ((rd_T49 l1 x5_1).f4)) || (!(((rd_T49 l0 x5_1).f5) == ((rd_T49 l1 x5_1).f5)))))))) = true
       ·rw [if_pos c7] at H; have c7b0 : (!(((rd_T49 l0 x5_1).f0) == ((rd_T49 l1 x5_1).f0)) || (!(((rd_T49 l0 x5_1).f1) == ((rd_T49 l1 x5_1).f1)) || (!(((rd_T49 l0 x5_1).f2) == ((rd_T49 l1 x5_1).f2)) || (!(((rd_T49 l0 x5_1).f3) == ((rd_T49 l1 x5_1).f3)) || (!(((rd_T49 l0 x5_1).f4) == ((rd_T49 l1 x5_1).f4)) || (!(((rd_T49 l0 x5_1).f5) == ((rd_T49 l1 x5_1).f5)))))))) = true := c7; clear c7; obtain rfl := Option.some.inj H; have p411 : 0 ≤ (x5_1 : Int) := of_decide_eq_true tW_; have q411 : x5_1 < (l0.length : Int) := of_decide_eq_true tW_; obtain ⟨ad411, e411, hx411_0, hx411_1, hx411_2, hx411_3, hx411_4, hx411_5⟩ := at_T49 HR0.out x5_1 p411 q411; cases e411; replace p411 := eq_true p411; replace q411 := eq_true q411; have p412 : 0 ≤ (x5_1 : Int) := of_decide_eq_true tW_; have q412 : x5_1 < (l1.length : Int) := of_decide_eq_true tW_; obtain ⟨ad412, e412, hx412_0, hx412_1, hx412_2, hx412_3, hx412_4, hx412_5⟩ := at_T49 HR1.out x5_1 p412 q412; cases e412; replace p412 := eq_true p412; replace q412 := eq_true q412; go_wp2
        repeat (go_quiet (fail); try go_wp2)
        go_ret
        exact ⟨tS_, by repeat (first | exact Drawn0.refl _ | apply Drawn0.step)⟩
       ·rw [if_neg c7] at H; have c7b0 : (!(((rd_T49 l0 x5_1).f0) == ((rd_T49 l1 x5_1).f0)) || (!(((rd_T49 l0 x5_1).f1) == ((rd_T49 l1 x5_1).f1)) || (!(((rd_T49 l0 x5_1).f2) == ((rd_T49 l1 x5_1).f2)) || (!(((rd_T49 l0 x5_1).f3) == ((rd_T49 l1 x5_1).f3)) || (!(((rd_T49 l0 x5_1).f4) == ((rd_T49 l1 x5_1).f4)) || (!(((rd_T49 l0 x5_1).f5) == ((rd_T49 l1 x5_1).f5)))))))) = false := by simpa using c7
        clear c7; have H' := Aside0.mk H; clear H; have p411 : 0 ≤ (x5_1 : Int) := of_decide_eq_true tW_; have q411 : x5_1 < (l0.length : Int) := of_decide_eq_true tW_; obtain ⟨ad411, e411, hx411_0, hx411_1, hx411_2, hx411_3, hx411_4, hx411_5⟩ := at_T49 HR0.out x5_1 p411 q411; cases e411; replace p411 := eq_true p411; replace q411 := eq_true q411; have p412 : 0 ≤ (x5_1 : Int) := of_decide_eq_true tW_; have q412 : x5_1 < (l1.length : Int) := of_decide_eq_true tW_; obtain ⟨ad412, e412, hx412_0, hx412_1, hx412_2, hx412_3, hx412_4, hx412_5⟩ := at_T49 HR1.out x5_1 p412 q412; cases e412; replace p412 := eq_true p412; replace q412 := eq_true q412; go_wp2
        repeat (go_quiet (fail); try go_wp2)
        go_roundg k1
        case measure => have := HK1.out; omega
        case rel => exact ⟨(wrap64 (x5_1 + 1)), tS_, H', ⟨by have := HK1.out; omega⟩, by repeat (first | exact Drawn0.refl _ | apply Drawn0.step)⟩
      ·rw [if_neg c6] at H; exact absurd H (by simp)
     ·rw [if_neg c5] at H; exact absurd H (by simp)
    ·rw [if_neg c4] at H; have c4b0 : decide (x5_1 < (l0.length : Int)) = false := decide_eq_false c4; clear c4; obtain rfl := Option.some.inj H; go_wp2
     repeat (go_quiet (fail); try go_wp2)
     go_ret
     exact ⟨tS_, by repeat (first | exact Drawn0.refl _ | apply Drawn0.step)⟩
 ·rw [if_neg c3] at H; have c3b0 : ((l0.length : Int) == (l1.length : Int)) = false := beq_eq_false_iff_ne.mpr c3; have c3b1 : ((l0.length : Int) != (l1.length : Int)) = true := bne_iff_ne.mpr c3; have c3b2 : (l0.length == l1.length) = false := by first | simpa using c3 | (simp at c3 ⊢; omega)
  obtain rfl := Option.some.inj H
  go_enter Try.func16, Try.ntmps16
  go_wp2
  repeat (go_quiet (fail); try go_wp2)
  go_ret
  exact ⟨tS_, by repeat (first | exact Drawn0.refl _ | apply Drawn0.step)⟩

end Go.Proofs.Ytgnahbjpockdmab.Q
namespace Go.Proofs.Ytgnahbjpockdmab.Q
open Go.RowKit Go.Proofs.YtgnahbjpockdmabPrs Go.Proofs.YtgnahbjpockdmabOwn Go.Proofs.YtgnahbjpockdmabW.PrintWords Go.Proofs.YtgnahbjpockdmabW.PrintLast Go.Proofs.YtgnahbjpockdmabW.PrintMore
attribute [local go_sem] max2_int min2_int max_two min_two max_three min_three max_four min_four   -- for this text's walks alone
set_option linter.unusedVariables false
set_option linter.unusedSimpArgs false

/-! ### hinterlandsame_List_int: function 27 -/
def hinterlandsame_List_int.l0 : Nat → List Int → List Int → Int → Option (Bool)
  | 0, _, _, _ => none
  | k + 1, x0, x1, x5 => if x5 < (x0.length : Int) then (if 0 ≤ x5 then (if x5 < (x1.length : Int) then (if (rd x0 x5) = (rd x1 x5) then (hinterlandsame_List_int.l0 k x0 x1 (wrap64 (x5 + 1))) else (some false)) else (none)) else (none)) else (some true)
def hinterlandsame_List_int.f (k : Nat) (l0 : List Int) (l1 : List Int) : Option (Bool) := if (l0.length : Int) = (l1.length : Int) then (hinterlandsame_List_int.l0 k l0 l1 0) else (some false)
theorem hinterlandsame_List_int.mono_l : ∀ k, (∀ y0 y1 y2, LeO (hinterlandsame_List_int.l0 k y0 y1 y2) (hinterlandsame_List_int.l0 (k + 1) y0 y1 y2))
  | 0 => fun _ _ _ r h => by simp [hinterlandsame_List_int.l0] at h
  | k + 1 => by
    have ih0 := hinterlandsame_List_int.mono_l k
    · intro y0 y1 y2
      unfold hinterlandsame_List_int.l0
      repeat' first
      | (with_reducible first | apply ih0 | exact LeO.refl _ | exact LeO.none _ | refine LeO.ite ?_ ?_ | refine LeO.bind ?_ (fun _ => ?_))
theorem hinterlandsame_List_int.mono : ∀ a0 a1 k, LeO (hinterlandsame_List_int.f k a0 a1) (hinterlandsame_List_int.f (k + 1) a0 a1) := by
  intro a0 a1 k; have ih0 := hinterlandsame_List_int.mono_l k
  unfold hinterlandsame_List_int.f
  repeat' first
      | (with_reducible first | apply ih0 | exact LeO.refl _ | exact LeO.none _ | refine LeO.ite ?_ ?_ | refine LeO.bind ?_ (fun _ => ?_))
set_option maxHeartbeats 8000000 in
set_option maxRecDepth 100000 in
theorem hinterlandsame_List_int.calls (k : Nat) (A0 : Option Addr) (c0 : Nat) (l0 : List Int) (A1 : Option Addr) (c1 : Nat) (l1 : List Int) (r : Bool) (w : World) (hr0 : Kd.C (Kd.int .i64) w A0 l0.length l0) (hc0 : l0.length ≤ c0) (hr1 : Kd.C (Kd.int .i64) w A1 l1.length l1) (hc1 : l1.length ≤ c1) (h : hinterlandsame_List_int.f k l0 l1 = some r) :
    Calls Try.prog 27 #[.slice A0 l0.length c0, .slice A1 l1.length c1] w fun e w' => e = .returned (.bool r) ∧ Drawn0 w w' := by
 have HR0 := Aside0.mk hr0; have HC0 := Aside0.mk hc0; clear hr0 hc0; have HR1 := Aside0.mk hr1; have HC1 := Aside0.mk hc1; clear hr1 hc1; have H : (if (l0.length : Int) = (l1.length : Int) then (hinterlandsame_List_int.l0 k l0 l1 0) else (some false)) = some r := h; clear h
 by_cases c3 : (l0.length : Int) = (l1.length : Int)
 ·rw [if_pos c3] at H; have c3b0 : ((l0.length : Int) == (l1.length : Int)) = true := beq_iff_eq.mpr c3; have c3b1 : ((l0.length : Int) != (l1.length : Int)) = false := bne_eq_false_iff_eq.mpr c3; have c3b2 : (l0.length == l1.length) = true := by first | simpa using c3 | (simp at c3 ⊢; omega)
  clear c3; have H' := Aside0.mk H; clear H
  go_enter Try.func27, Try.ntmps27
  go_wp2
  repeat (go_quiet (fail); try go_wp2)
  go_loopg [5] k (fun kq v5 w' => ∃ (x5_1 : Int), v5 = .int .i64 x5_1 ∧ Aside0 (hinterlandsame_List_int.l0 kq l0 l1 x5_1 = some r) ∧ Aside0 (kq ≤ k) ∧ Drawn0 w w')
  case atStart => exact ⟨(0), tS_, H', ⟨Nat.le_refl _⟩, by repeat (first | exact Drawn0.refl _ | apply Drawn0.step)⟩
  case round =>
   clear H'; (try clear c1); (try clear c3); (try clear c3b0); (try clear c3b1); (try clear c3b2); obtain ⟨x5_1, rfl, HA, HK1, ⟨m1, rfl⟩⟩ := hrel
   cases gk with
   | zero => exact absurd HA.out (by simp [hinterlandsame_List_int.l0])
   | succ k1 =>
    have H := HA.out; clear HA; simp only [hinterlandsame_List_int.l0] at H
    by_cases c4 : x5_1 < (l0.length : Int)
    ·rw [if_pos c4] at H; have c4b0 : decide (x5_1 < (l0.length : Int)) = true := decide_eq_true c4; clear c4
     by_cases c5 : 0 ≤ x5_1
     ·rw [if_pos c5] at H; have c5b0 : decide (0 ≤ x5_1) = true := decide_eq_true c5; clear c5
      by_cases c6 : x5_1 < (l1.length : Int)
      ·rw [if_pos c6] at H; have c6b0 : decide (x5_1 < (l1.length : Int)) = true := decide_eq_true c6; clear c6
       by_cases c7 : (rd l0 x5_1) = (rd l1 x5_1)
       ·rw [if_pos c7] at H; have c7b0 : ((rd l0 x5_1) == (rd l1 x5_1)) = true := beq_iff_eq.mpr c7; have c7b1 : ((rd l0 x5_1) != (rd l1 x5_1)) = false := bne_eq_false_iff_eq.mpr c7; clear c7; have H' := Aside0.mk H; clear H; have p413 : 0 ≤ (x5_1 : Int) := of_decide_eq_true tW_; have q413 : x5_1 < (l0.length : Int) := of_decide_eq_true tW_; obtain ⟨ad413, e413, hx413_0⟩ := Kd.at_int HR0.out x5_1 p413 q413; cases e413; replace p413 := eq_true p413; replace q413 := eq_true q413; have p414 : 0 ≤ (x5_1 : Int) := of_decide_eq_true tW_; have q414 : x5_1 < (l1.length : Int) := of_decide_eq_true tW_; obtain ⟨ad414, e414, hx414_0⟩ := Kd.at_int HR1.out x5_1 p414 q414; cases e414; replace p414 := eq_true p414; replace q414 := eq_true q414; go_wp2
        repeat (go_quiet (fail); try go_wp2)
        go_roundg k1
        case measure => have := HK1.out; omega
        case rel => exact ⟨(wrap64 (x5_1 + 1)), tS_, H', ⟨by have := HK1.out; omega⟩, by repeat (first | exact Drawn0.refl _ | apply Drawn0.step)⟩
       ·rw [if_neg c7] at H; have c7b0 : ((rd l0 x5_1) == (rd l1 x5_1)) = false := beq_eq_false_iff_ne.mpr c7; have c7b1 : ((rd l0 x5_1) != (rd l1 x5_1)) = true := bne_iff_ne.mpr c7; obtain rfl := Option.some.inj H; have p413 : 0 ≤ (x5_1 : Int) := of_decide_eq_true tW_; have q413 : x5_1 < (l0.length : Int) := of_decide_eq_true tW_; obtain ⟨ad413, e413, hx413_0⟩ := Kd.at_int HR0.out x5_1 p413 q413; cases e413; replace p413 := eq_true p413; replace q413 := eq_true q413; have p414 : 0 ≤ (x5_1 : Int) := of_decide_eq_true tW_; have q414 : x5_1 < (l1.length : Int) := of_decide_eq_true tW_; obtain ⟨ad414, e414, hx414_0⟩ := Kd.at_int HR1.out x5_1 p414 q414; cases e414; replace p414 := eq_true p414; replace q414 := eq_true q414; go_wp2
        repeat (go_quiet (fail); try go_wp2)
        go_ret
        exact ⟨tS_, by repeat (first | exact Drawn0.refl _ | apply Drawn0.step)⟩
      ·rw [if_neg c6] at H; exact absurd H (by simp)
     ·rw [if_neg c5] at H; exact absurd H (by simp)
    ·rw [if_neg c4] at H; have c4b0 : decide (x5_1 < (l0.length : Int)) = false := decide_eq_false c4; clear c4; obtain rfl := Option.some.inj H; go_wp2
     repeat (go_quiet (fail); try go_wp2)
     go_ret
     exact ⟨tS_, by repeat (first | exact Drawn0.refl _ | apply Drawn0.step)⟩
 ·rw [if_neg c3] at H; have c3b0 : ((l0.length : Int) == (l1.length : Int)) = false := beq_eq_false_iff_ne.mpr c3; have c3b1 : ((l0.length : Int) != (l1.length : Int)) = true := bne_iff_ne.mpr c3; have c3b2 : (l0.length == l1.length) = false := by first | simpa using c3 | (simp at c3 ⊢; omega)
  obtain rfl := Option.some.inj H
  go_enter Try.func27, Try.ntmps27
  go_wp2
  repeat (go_quiet (fail); try go_wp2)
  go_ret
  exact ⟨tS_, by repeat (first | exact Drawn0.refl _ | apply Drawn0.step)⟩

end Go.Proofs.Ytgnahbjpockdmab.Q
