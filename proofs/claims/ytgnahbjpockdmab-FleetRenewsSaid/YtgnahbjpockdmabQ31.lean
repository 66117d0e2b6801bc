-- PRINTED by print.py out of the translation. Not trusted: Lean checks it.
import Derived.Test.YtgnahbjpockdmabPrs
import Derived.Test.YtgnahbjpockdmabQ0
import Derived.Test.YtgnahbjpockdmabQ28
namespace Go.Proofs.Ytgnahbjpockdmab.Q
open Go.RowKit Go.Proofs.YtgnahbjpockdmabPrs Go.Proofs.YtgnahbjpockdmabOwn Go.Proofs.YtgnahbjpockdmabW.PrintWords Go.Proofs.YtgnahbjpockdmabW.PrintLast Go.Proofs.YtgnahbjpockdmabW.PrintMore
open List renaming setIfInBounds_toArray → sI_, set_cons_zero → s0_, set_cons_succ → sS_
attribute [local go_sem] max2_int min2_int max_two min_two max_three min_three max_four min_four   -- for this text's walks alone
set_option linter.unusedVariables false
set_option linter.unusedSimpArgs false

/-! ### hinterlandref09_Validate: function 36 -/
mutual
def hinterlandref09_Validate.l0 : Nat → List (S49) → Int → Option (Int)
  | 0, _, _ => none
  | k + 1, x0, x3 => if x3 < (x0.length : Int) then (if 0 ≤ x3 then (if x3 > 0 then (if 0 ≤ (wrap64 (x3 - 1)) then (if (wrap64 (x3 - 1)) < (x0.length : Int) then ((hinterlandref09_less.f ((rd_T49 x0 (wrap64 (x3 - 1))).f0) ((rd_T49 x0 (wrap64 (x3 - 1))).f1) ((rd_T49 x0 (wrap64 (x3 - 1))).f2) ((rd_T49 x0 (wrap64 (x3 - 1))).f3) ((rd_T49 x0 (wrap64 (x3 - 1))).f4) ((rd_T49 x0 (wrap64 (x3 - 1))).f5) ((rd_T49 x0 x3).f0) ((rd_T49 x0 x3).f1) ((rd_T49 x0 x3).f2) ((rd_T49 x0 x3).f3) ((rd_T49 x0 x3).f4) ((rd_T49 x0 x3).f5)).bind fun t345 => (if t345 = true then (if ((rd_T49 x0 x3).f4) < 1 then (hinterlandref09_Validate.j1 k x0 x3 true) else (if ((rd_T49 x0 x3).f4) > 1000000 then (hinterlandref09_Validate.j1 k x0 x3 true) else ((hinterlandref09_Out.f ((rd_T49 x0 x3).f3) 255).bind fun t346 => (if t346 = true then (hinterlandref09_Validate.j1 k x0 x3 true) else ((hinterlandref09_Out.f ((rd_T49 x0 x3).f5) 1000000000000).bind fun t347 => (if t347 = true then (hinterlandref09_Validate.j1 k x0 x3 true) else ((hinterlandref09_Out.f ((rd_T49 x0 x3).f0) 1000000).bind fun t348 => (if t348 = true then (hinterlandref09_Validate.j1 k x0 x3 true) else ((hinterlandref09_Out.f ((rd_T49 x0 x3).f1) 1000000).bind fun t349 => (if t349 = true then (hinterlandref09_Validate.j1 k x0 x3 true) else ((hinterlandref09_Out.f ((rd_T49 x0 x3).f2) 1000000).bind fun t350 => (hinterlandref09_Validate.j1 k x0 x3 t350)))))))))))) else (hinterlandref09_Validate.j1 k x0 x3 true))) else (none)) else (none)) else (if ((rd_T49 x0 x3).f4) < 1 then (hinterlandref09_Validate.j1 k x0 x3 true) else (if ((rd_T49 x0 x3).f4) > 1000000 then (hinterlandref09_Validate.j1 k x0 x3 true) else ((hinterlandref09_Out.f ((rd_T49 x0 x3).f3) 255).bind fun t351 => (if t351 = true then (hinterlandref09_Validate.j1 k x0 x3 true) else ((hinterlandref09_Out.f ((rd_T49 x0 x3).f5) 1000000000000).bind fun t352 => (if t352 = true then (hinterlandref09_Validate.j1 k x0 x3 true) else ((hinterlandref09_Out.f ((rd_T49 x0 x3).f0) 1000000).bind fun t353 => (if t353 = true then (hinterlandref09_Validate.j1 k x0 x3 true) else ((hinterlandref09_Out.f ((rd_T49 x0 x3).f1) 1000000).bind fun t354 => (if t354 = true then (hinterlandref09_Validate.j1 k x0 x3 true) else ((hinterlandref09_Out.f ((rd_T49 x0 x3).f2) 1000000).bind fun t355 => (hinterlandref09_Validate.j1 k x0 x3 t355))))))))))))) else (none)) else (some 0)
def hinterlandref09_Validate.j1 : Nat → List (S49) → Int → Bool → Option (Int)
  | 0, _, _, _ => none
  | k + 1, x0, x3, x64 => if x64 = true then (some 1) else (hinterlandref09_Validate.l0 k x0 (wrap64 (x3 + 1)))
end
def hinterlandref09_Validate.f (k : Nat) (l0 : List (S49)) : Option (Int) := if (l0.length : Int) > 200 then (some 4) else (hinterlandref09_Validate.l0 k l0 0)
theorem hinterlandref09_Validate.mono_l : ∀ k, (∀ y0 y1, LeO (hinterlandref09_Validate.l0 k y0 y1) (hinterlandref09_Validate.l0 (k + 1) y0 y1)) ∧ (∀ y0 y1 y2, LeO (hinterlandref09_Validate.j1 k y0 y1 y2) (hinterlandref09_Validate.j1 (k + 1) y0 y1 y2))
  | 0 => ⟨fun _ _ r h => by simp [hinterlandref09_Validate.l0] at h, fun _ _ _ r h => by simp [hinterlandref09_Validate.j1] at h⟩
  | k + 1 => by
    obtain ⟨ih0, ih1⟩ := hinterlandref09_Validate.mono_l k; refine ⟨?_, ?_⟩
    · intro y0 y1
      unfold hinterlandref09_Validate.l0
      repeat' first
      | (with_reducible first | apply ih0 | apply ih1 | exact LeO.refl _ | exact LeO.none _ | refine LeO.ite ?_ ?_ | refine LeO.bind ?_ (fun _ => ?_))
    · intro y0 y1 y2
      unfold hinterlandref09_Validate.j1
      repeat' first
      | (with_reducible first | apply ih0 | apply ih1 | exact LeO.refl _ | exact LeO.none _ | refine LeO.ite ?_ ?_ | refine LeO.bind ?_ (fun _ => ?_))
theorem hinterlandref09_Validate.mono : ∀ a0 k, LeO (hinterlandref09_Validate.f k a0) (hinterlandref09_Validate.f (k + 1) a0) := by
  intro a0 k; obtain ⟨ih0, ih1⟩ := hinterlandref09_Validate.mono_l k
  unfold hinterlandref09_Validate.f
  repeat' first
      | (with_reducible first | apply ih0 | apply ih1 | exact LeO.refl _ | exact LeO.none _ | refine LeO.ite ?_ ?_ | refine LeO.bind ?_ (fun _ => ?_))
def hinterlandref09_Validate.T7 : Bool × List (List Nat × List Nat) := (true, [([], []), ([0], [0]), ([1], [1]), ([2], [2]), ([2], [2]), ([4, 2], [2, 4]), ([3, 5, 2], [2, 3, 5]), ([6, 2], [2, 6]), ([2], [2]), ([7, 8, 2, 2], [2, 7, 8]), ([9, 2], [2, 9]), ([2, 10], [2, 10]), ([11, 9], [11]), ([12], [12]), ([13, 12], [12, 13]), ([14, 12], [12, 14]), ([12, 15], [12, 15]), ([16, 12], [16]), ([17], [17]), ([18, 17], [17, 18]), ([19, 17], [17, 19]), ([17, 20], [17, 20]), ([21, 17], [21]), ([22], [22]), ([23, 22], [22, 23]), ([24, 22, 22], [22, 24]), ([22, 25], [22, 25]), ([26, 25], [26]), ([27], [27]), ([28, 27], [27, 28]), ([29, 27, 27], [27, 29]), ([27, 30], [27, 30]), ([31, 30], [31]), ([32], [32]), ([33, 32], [32, 33]), ([34, 32, 32], [32, 34]), ([32, 35], [32, 35]), ([36, 35], [36]), ([37], [37]), ([38, 37], [37, 38]), ([39, 37, 37], [37, 39]), ([37, 40], [37, 40]), ([41, 40], [41]), ([42], [42]), ([43, 42], [42, 43]), ([44, 42, 42], [42, 44]), ([42, 45], [42, 45])])
def hinterlandref09_Validate.B7 : List Nat := [0, 1, 3, 7, 7, 23, 63, 127, 7, 511, 1023, 2047, 4095, 8191, 16383, 32767, 65535, 131071, 262143, 524287, 1048575, 2097151, 4194303, 8388607, 16777215, 33554431, 67108863, 134217727, 268435455, 536870911, 1073741823, 2147483647, 4294967295, 8589934591, 17179869183, 34359738367, 68719476735, 137438953471, 274877906943, 549755813887, 1099511627775, 2199023255551, 4398046511103, 8796093022207, 17592186044415, 35184372088831, 70368744177663]
theorem hinterlandref09_Validate.tab7 : rtab .any (opsOf Try.f36 7) = hinterlandref09_Validate.T7 := by kernel_rfl
theorem hinterlandref09_Validate.bits7 : waitsOk hinterlandref09_Validate.T7.2 hinterlandref09_Validate.B7 = true := by kernel_rfl
set_option maxHeartbeats 8000000 in
set_option maxRecDepth 100000 in
theorem hinterlandref09_Validate.calls (k : Nat) (A0 : Option Addr) (c0 : Nat) (l0 : List (S49)) (r : Int) (w : World) (hr0 : Kd.C k49 w A0 l0.length l0) (hc0 : l0.length ≤ c0) (h : hinterlandref09_Validate.f k l0 = some r) :
    Calls Try.prog 36 #[.slice A0 l0.length c0] w fun e w' => e = .returned (.int .i64 r) ∧ Below w.heap.size w w' := by
 have hu49 := Try.underlying49; have HR0 := Aside0.mk hr0; have HC0 := Aside0.mk hc0; clear hr0 hc0; have HB := Aside0.mk (Below.refl w.heap.size w); have H : (if (l0.length : Int) > 200 then (some 4) else (hinterlandref09_Validate.l0 k l0 0)) = some r := h; clear h
 by_cases c2 : (l0.length : Int) > 200
 ·rw [if_pos c2] at H; have c2b0 : decide (200 < (l0.length : Int)) = true := decide_eq_true c2; have c2b1 : decide (200 < l0.length) = true := decide_eq_true (by omega); clear c2; obtain rfl := Option.some.inj H
  go_enter Try.func36, Try.ntmps36
  go_wp2
  go_ret
  exact ⟨tE_, dL_ HB⟩
 ·rw [if_neg c2] at H; have c2b0 : decide (200 < (l0.length : Int)) = false := decide_eq_false c2; have c2b1 : decide (200 < l0.length) = false := decide_eq_false (by omega); clear c2; have H' := Aside0.mk H; clear H
  go_enter Try.func36, Try.ntmps36
  go_wp2
  go_loopg [3] k (fun kq v3 w' => ∃ (x3_1 : Int), v3 = .int .i64 x3_1 ∧ Aside0 (hinterlandref09_Validate.l0 kq l0 x3_1 = some r) ∧ Aside0 (kq ≤ k) ∧ Aside0 (Below w.heap.size w w'))
  case atStart => exact ⟨(0), tS_, H', ⟨Nat.le_refl _⟩, ⟨dL_ HB⟩⟩
  case round =>
   clear H'; (try clear c2); (try clear c2b0); (try clear c2b1); obtain ⟨x3_1, rfl, HA, HK1, HB⟩ := hrel
   cases gk with
   | zero => exact absurd HA.out (by simp [hinterlandref09_Validate.l0])
   | succ k1 =>
    have H := HA.out; clear HA; simp only [hinterlandref09_Validate.l0] at H
    by_cases c3 : x3_1 < (l0.length : Int)
    ·rw [if_pos c3] at H; have c3b0 : decide (x3_1 < (l0.length : Int)) = true := decide_eq_true c3; clear c3
     by_cases c4 : 0 ≤ x3_1
     ·rw [if_pos c4] at H; have c4b0 : decide (0 ≤ x3_1) = true := decide_eq_true c4; clear c4; have HC5 := Aside0.mk H; clear H; have p342 : 0 ≤ (x3_1 : Int) := of_decide_eq_true tW_; have q342 : x3_1 < (l0.length : Int) := of_decide_eq_true tW_; obtain ⟨ad342, e342, hx342_0, hx342_1, hx342_2, hx342_3, hx342_4, hx342_5⟩ := at_T49 HR0.out x3_1 p342 q342; cases e342; replace hx342_0 := bc_ HB hx342_0; replace hx342_1 := bc_ HB hx342_1; replace hx342_2 := bc_ HB hx342_2; replace hx342_3 := bc_ HB hx342_3; replace hx342_4 := bc_ HB hx342_4; replace hx342_5 := bc_ HB hx342_5; replace p342 := eq_true p342; replace q342 := eq_true q342
      go_upto_region 7 with (first | ((with_reducible refine gate_dst (N := 4) rfl ?_); refine bx_ (N := 4) (cs := #[.int .i64 0, .int .i64 0, .int .i64 0, .int .i64 0, .int .i64 0, .int .i64 0]) (t := 49) ?_; intro gb343 hg w6 hbox hb; have BK343 := Aside0.mk (hbox); have GW343 := Aside0.mk ((dS_ hg (dL_ HB) : w.heap.size ≤ gb343)); have GE343 := GW343; replace HB := Aside0.mk (below_step (dL_ HB) hb); clear hb hbox hg; obtain ⟨z7a, z7b, z7c, z7d, z7e, z7f, y7a, y7b, y7c, y7d, y7e, y7f⟩ := cs6_ BK343.out))
      (try simp only [Act.put, sI_, s0_, sS_])
      go_cut [64] (fun v64 wc => ∃ (kq : Nat) (x64_4 : Bool), v64 = .bool x64_4 ∧ Aside0 (hinterlandref09_Validate.j1 kq l0 x3_1 x64_4 = some r) ∧ Aside0 (kq ≤ k1) ∧ Aside0 (wc.heap[gb343]? = some (.cells #[.int .i64 ((rd_T49 l0 x3_1).f0), .int .i64 ((rd_T49 l0 x3_1).f1), .int .i64 ((rd_T49 l0 x3_1).f2), .int .i64 ((rd_T49 l0 x3_1).f3), .int .i64 ((rd_T49 l0 x3_1).f4), .int .i64 ((rd_T49 l0 x3_1).f5)] 49 (0, 0))) ∧ Aside0 (Below w.heap.size w wc))
      case first =>
       have H := HC5.out; clear HC5; refine (Classical.em (x3_1 > 0)).elim (fun c8 => ?a12_) (fun c8 => ?b12_)
       case' a12_ =>
        rw [if_pos c8] at H; have c8b0 : decide (0 < x3_1) = true := decide_eq_true c8; clear c8
        (first | rw [c8b0] | (simp only [i64_w, i32_w]; rw [c8b0]) | skip)
        obtain ⟨ji9, hji9⟩ : ∃ j_ : Int, (wrap64 (x3_1 - 1)) = j_ := ⟨_, rfl⟩; replace H : (if 0 ≤ (ji9) then (if (ji9) < (l0.length : Int) then ((hinterlandref09_less.f ((rd_T49 l0 (ji9)).f0) ((rd_T49 l0 (ji9)).f1) ((rd_T49 l0 (ji9)).f2) ((rd_T49 l0 (ji9)).f3) ((rd_T49 l0 (ji9)).f4) ((rd_T49 l0 (ji9)).f5) ((rd_T49 l0 x3_1).f0) ((rd_T49 l0 x3_1).f1) ((rd_T49 l0 x3_1).f2) ((rd_T49 l0 x3_1).f3) ((rd_T49 l0 x3_1).f4) ((rd_T49 l0 x3_1).f5)).bind fun t345 => (if t345 = true then (if ((rd_T49 l0 x3_1).f4) < 1 then (hinterlandref09_Validate.j1 k1 l0 x3_1 true) else (if ((rd_T49 l0 x3_1).f4) > 1000000 then (hinterlandref09_Validate.j1 k1 l0 x3_1 true) else ((hinterlandref09_Out.f ((rd_T49 l0 x3_1).f3) 255).bind fun t346 => (if t346 = true then (hinterlandref09_Validate.j1 k1 l0 x3_1 true) else ((hinterlandref09_Out.f ((rd_T49 l0 x3_1).f5) 1000000000000).bind fun t347 => (if t347 = true then (hinterlandref09_Validate.j1 k1 l0 x3_1 true) else ((hinterlandref09_Out.f ((rd_T49 l0 x3_1).f0) 1000000).bind fun t348 => (if t348 = true then (hinterlandref09_Validate.j1 k1 l0 x3_1 true) else ((hinterlandref09_Out.f ((rd_T49 l0 x3_1).f1) 1000000).bind fun t349 => (if t349 = true then (hinterlandref09_Validate.j1 k1 l0 x3_1 true) else ((hinterlandref09_Out.f ((rd_T49 l0 x3_1).f2) 1000000).bind fun t350 => (hinterlandref09_Validate.j1 k1 l0 x3_1 t350)))))))))))) else (hinterlandref09_Validate.j1 k1 l0 x3_1 true))) else (none)) else (none)) = some r := by first | (rw [hji9] at H; exact H) | (simp only [hji9] at H ⊢; exact H)
        have hji9w : (IntKind.i64.wrap (x3_1 - 1)) = ji9 := (i64_w _).trans hji9; refine (Classical.em (0 ≤ (ji9))).elim (fun c10 => ?a13_) (fun c10 => ?b13_)
        case' a13_ =>
         rw [if_pos c10] at H; have c10b0 : decide (0 ≤ (ji9)) = true := decide_eq_true c10; clear c10; refine (Classical.em ((ji9) < (l0.length : Int))).elim (fun c11 => ?a14_) (fun c11 => ?b14_)
         case' a14_ =>
          rw [if_pos c11] at H; have c11b0 : decide ((ji9) < (l0.length : Int)) = true := decide_eq_true c11; clear c11; replace H := Option.bind_eq_some_iff.mp H; obtain ⟨t345, A120, H⟩ := H; have A12 := Aside0.mk A120; clear A120; refine (Classical.em (t345 = true)).elim (fun c13 => ?a15_) (fun c13 => ?b15_)
          case' a15_ =>
           subst c13; rw [if_pos rfl] at H; refine (Classical.em (((rd_T49 l0 x3_1).f4) < 1)).elim (fun c14 => ?a16_) (fun c14 => ?b16_)
           case' a16_ =>
            rw [if_pos c14] at H; have c14b0 : decide (((rd_T49 l0 x3_1).f4) < 1) = true := decide_eq_true c14; clear c14; have H' := Aside0.mk H; clear H
           case' b16_ =>
            rw [if_neg c14] at H; have c14b0 : decide (((rd_T49 l0 x3_1).f4) < 1) = false := decide_eq_false c14; clear c14; refine (Classical.em (((rd_T49 l0 x3_1).f4) > 1000000)).elim (fun c18 => ?a17_) (fun c18 => ?b17_)
            case' a17_ =>
             rw [if_pos c18] at H; have c18b0 : decide (1000000 < ((rd_T49 l0 x3_1).f4)) = true := decide_eq_true c18; clear c18; have H' := Aside0.mk H; clear H
            case' b17_ =>
             rw [if_neg c18] at H; have c18b0 : decide (1000000 < ((rd_T49 l0 x3_1).f4)) = false := decide_eq_false c18; clear c18; replace H := Option.bind_eq_some_iff.mp H; obtain ⟨t346, A220, H⟩ := H; have A22 := Aside0.mk A220; clear A220; refine (Classical.em (t346 = true)).elim (fun c23 => ?a18_) (fun c23 => ?b18_)
             case' a18_ =>
              subst c23; rw [if_pos rfl] at H; have H' := Aside0.mk H; clear H
             case' b18_ =>
              replace c23 := Bool.eq_false_iff.mpr c23; subst c23; rw [if_neg (show ¬ (false = true) by decide)] at H; replace H := Option.bind_eq_some_iff.mp H; obtain ⟨t347, A270, H⟩ := H; have A27 := Aside0.mk A270; clear A270; refine (Classical.em (t347 = true)).elim (fun c28 => ?a19_) (fun c28 => ?b19_)
              case' a19_ =>
               subst c28; rw [if_pos rfl] at H; have H' := Aside0.mk H; clear H
              case' b19_ =>
               replace c28 := Bool.eq_false_iff.mpr c28; subst c28; rw [if_neg (show ¬ (false = true) by decide)] at H; replace H := Option.bind_eq_some_iff.mp H; obtain ⟨t348, A320, H⟩ := H; have A32 := Aside0.mk A320; clear A320; refine (Classical.em (t348 = true)).elim (fun c33 => ?a20_) (fun c33 => ?b20_)
               case' a20_ =>
                subst c33; rw [if_pos rfl] at H; have H' := Aside0.mk H; clear H
               case' b20_ =>
                replace c33 := Bool.eq_false_iff.mpr c33; subst c33; rw [if_neg (show ¬ (false = true) by decide)] at H; replace H := Option.bind_eq_some_iff.mp H; obtain ⟨t349, A370, H⟩ := H; have A37 := Aside0.mk A370; clear A370; refine (Classical.em (t349 = true)).elim (fun c38 => ?a21_) (fun c38 => ?b21_)
                case' a21_ =>
                 subst c38; rw [if_pos rfl] at H; have H' := Aside0.mk H; clear H
                case' b21_ =>
                 replace c38 := Bool.eq_false_iff.mpr c38; subst c38; rw [if_neg (show ¬ (false = true) by decide)] at H; replace H := Option.bind_eq_some_iff.mp H; obtain ⟨t350, A420, H⟩ := H; have A42 := Aside0.mk A420; clear A420; have H' := Aside0.mk H; clear H
          case' b15_ =>
           replace c13 := Bool.eq_false_iff.mpr c13; subst c13; rw [if_neg (show ¬ (false = true) by decide)] at H; have H' := Aside0.mk H; clear H
         case b14_ =>
          rw [if_neg c11] at H; exact absurd H (by simp)
        case b13_ =>
         rw [if_neg c10] at H; exact absurd H (by simp)
       case' b12_ =>
        rw [if_neg c8] at H; have c8b0 : decide (0 < x3_1) = false := decide_eq_false c8; clear c8
        (first | rw [c8b0] | (simp only [i64_w, i32_w]; rw [c8b0]) | skip)
        refine (Classical.em (((rd_T49 l0 x3_1).f4) < 1)).elim (fun c49 => ?a22_) (fun c49 => ?b22_)
        case' a22_ =>
         rw [if_pos c49] at H; have c49b0 : decide (((rd_T49 l0 x3_1).f4) < 1) = true := decide_eq_true c49; clear c49; have H' := Aside0.mk H; clear H
        case' b22_ =>
         rw [if_neg c49] at H; have c49b0 : decide (((rd_T49 l0 x3_1).f4) < 1) = false := decide_eq_false c49; clear c49; refine (Classical.em (((rd_T49 l0 x3_1).f4) > 1000000)).elim (fun c52 => ?a23_) (fun c52 => ?b23_)
         case' a23_ =>
          rw [if_pos c52] at H; have c52b0 : decide (1000000 < ((rd_T49 l0 x3_1).f4)) = true := decide_eq_true c52; clear c52; have H' := Aside0.mk H; clear H
         case' b23_ =>
          rw [if_neg c52] at H; have c52b0 : decide (1000000 < ((rd_T49 l0 x3_1).f4)) = false := decide_eq_false c52; clear c52; replace H := Option.bind_eq_some_iff.mp H; obtain ⟨t351, A550, H⟩ := H; have A55 := Aside0.mk A550; clear A550; refine (Classical.em (t351 = true)).elim (fun c56 => ?a24_) (fun c56 => ?b24_)
          case' a24_ =>
           subst c56; rw [if_pos rfl] at H; have H' := Aside0.mk H; clear H
          case' b24_ =>
           replace c56 := Bool.eq_false_iff.mpr c56; subst c56; rw [if_neg (show ¬ (false = true) by decide)] at H; replace H := Option.bind_eq_some_iff.mp H; obtain ⟨t352, A590, H⟩ := H; have A59 := Aside0.mk A590; clear A590; refine (Classical.em (t352 = true)).elim (fun c60 => ?a25_) (fun c60 => ?b25_)
           case' a25_ =>
            subst c60; rw [if_pos rfl] at H; have H' := Aside0.mk H; clear H
           case' b25_ =>
            replace c60 := Bool.eq_false_iff.mpr c60; subst c60; rw [if_neg (show ¬ (false = true) by decide)] at H; replace H := Option.bind_eq_some_iff.mp H; obtain ⟨t353, A630, H⟩ := H; have A63 := Aside0.mk A630; clear A630; refine (Classical.em (t353 = true)).elim (fun c64 => ?a26_) (fun c64 => ?b26_)
            case' a26_ =>
             subst c64; rw [if_pos rfl] at H; have H' := Aside0.mk H; clear H
            case' b26_ =>
             replace c64 := Bool.eq_false_iff.mpr c64; subst c64; rw [if_neg (show ¬ (false = true) by decide)] at H; replace H := Option.bind_eq_some_iff.mp H; obtain ⟨t354, A670, H⟩ := H; have A67 := Aside0.mk A670; clear A670; refine (Classical.em (t354 = true)).elim (fun c68 => ?a27_) (fun c68 => ?b27_)
             case' a27_ =>
              subst c68; rw [if_pos rfl] at H; have H' := Aside0.mk H; clear H
             case' b27_ =>
              replace c68 := Bool.eq_false_iff.mpr c68; subst c68; rw [if_neg (show ¬ (false = true) by decide)] at H; replace H := Option.bind_eq_some_iff.mp H; obtain ⟨t355, A710, H⟩ := H; have A71 := Aside0.mk A710; clear A710; have H' := Aside0.mk H; clear H
       all_goals (
        first
        | (try go_wp2
           generalize hW_ : ((((((w6.setCell ⟨gb343, 0, none⟩ (.int .i64 ((rd_T49 l0 x3_1).f0))).setCell ⟨gb343, 1, none⟩ (.int .i64 ((rd_T49 l0 x3_1).f1))).setCell ⟨gb343, 2, none⟩ (.int .i64 ((rd_T49 l0 x3_1).f2))).setCell ⟨gb343, 3, none⟩ (.int .i64 ((rd_T49 l0 x3_1).f3))).setCell ⟨gb343, 4, none⟩ (.int .i64 ((rd_T49 l0 x3_1).f4))).setCell ⟨gb343, 5, none⟩ (.int .i64 ((rd_T49 l0 x3_1).f5))) = wz1; replace BK343 : Aside0 (wz1.heap[gb343]? = some (.cells #[.int .i64 ((rd_T49 l0 x3_1).f0), .int .i64 ((rd_T49 l0 x3_1).f1), .int .i64 ((rd_T49 l0 x3_1).f2), .int .i64 ((rd_T49 l0 x3_1).f3), .int .i64 ((rd_T49 l0 x3_1).f4), .int .i64 ((rd_T49 l0 x3_1).f5)] 49 (0, 0))) := hp_ hW_ (bz_ BK343); replace HB := hb_ hW_ HB; clear hW_; replace BK343 := Aside0.mk (blk_drew BK343.out); replace HB := Aside0.mk (below_drew1 HB.out); have pz1 : 0 ≤ ((ji9) : Int) := of_decide_eq_true tW_; have qz1 : (ji9) < (l0.length : Int) := of_decide_eq_true tW_; obtain ⟨adz1, ez1, hxz1_0, hxz1_1, hxz1_2, hxz1_3, hxz1_4, hxz1_5⟩ := at_T49 HR0.out (ji9) pz1 qz1; have hwz1_5 := hxz1_5; have hwz1_4 := hxz1_4; have hwz1_3 := hxz1_3; have hwz1_2 := hxz1_2; have hwz1_1 := hxz1_1; have hwz1_0 := hxz1_0; obtain rfl : ad342 = adz1 := (by injection ez1); replace hxz1_0 := bc_ HB hxz1_0; replace hxz1_1 := bc_ HB hxz1_1; replace hxz1_2 := bc_ HB hxz1_2; replace hxz1_3 := bc_ HB hxz1_3; replace hxz1_4 := bc_ HB hxz1_4; replace hxz1_5 := bc_ HB hxz1_5; replace pz1 := eq_true pz1; replace qz1 := eq_true qz1)
        | (try go_wp2
           generalize hW_ : ((((((w6.setCell ⟨gb343, 0, none⟩ (.int .i64 ((rd_T49 l0 x3_1).f0))).setCell ⟨gb343, 1, none⟩ (.int .i64 ((rd_T49 l0 x3_1).f1))).setCell ⟨gb343, 2, none⟩ (.int .i64 ((rd_T49 l0 x3_1).f2))).setCell ⟨gb343, 3, none⟩ (.int .i64 ((rd_T49 l0 x3_1).f3))).setCell ⟨gb343, 4, none⟩ (.int .i64 ((rd_T49 l0 x3_1).f4))).setCell ⟨gb343, 5, none⟩ (.int .i64 ((rd_T49 l0 x3_1).f5))) = wz1; replace BK343 : Aside0 (wz1.heap[gb343]? = some (.cells #[.int .i64 ((rd_T49 l0 x3_1).f0), .int .i64 ((rd_T49 l0 x3_1).f1), .int .i64 ((rd_T49 l0 x3_1).f2), .int .i64 ((rd_T49 l0 x3_1).f3), .int .i64 ((rd_T49 l0 x3_1).f4), .int .i64 ((rd_T49 l0 x3_1).f5)] 49 (0, 0))) := hp_ hW_ (bz_ BK343); replace HB := hb_ hW_ HB; clear hW_; have n0_ := Aside0.mk (blk_drew BK343.out); have n1_ := Aside0.mk (below_drew1 HB.out); clear BK343; clear HB; have BK343 := n0_; have HB := n1_; clear n0_ n1_)
        first
        | (refine start_ (n := 47) (S := fun w' => w'.cell? ⟨gb343, 0, none⟩ = some (.int .i64 ((rd_T49 l0 x3_1).f0)) ∧ w'.cell? ⟨gb343, 1, none⟩ = some (.int .i64 ((rd_T49 l0 x3_1).f1)) ∧ w'.cell? ⟨gb343, 2, none⟩ = some (.int .i64 ((rd_T49 l0 x3_1).f2)) ∧ w'.cell? ⟨gb343, 3, none⟩ = some (.int .i64 ((rd_T49 l0 x3_1).f3)) ∧ w'.cell? ⟨gb343, 4, none⟩ = some (.int .i64 ((rd_T49 l0 x3_1).f4)) ∧ w'.cell? ⟨gb343, 5, none⟩ = some (.int .i64 ((rd_T49 l0 x3_1).f5)) ∧ w'.cell? (ad342.add (((ji9)).toNat * 6)) = some (.int .i64 ((rd_T49 l0 (ji9)).f0)) ∧ w'.cell? ⟨(ad342.add (((ji9)).toNat * 6)).block, (ad342.add (((ji9)).toNat * 6)).off + 1, none⟩ = some (.int .i64 ((rd_T49 l0 (ji9)).f1)) ∧ w'.cell? ⟨(ad342.add (((ji9)).toNat * 6)).block, (ad342.add (((ji9)).toNat * 6)).off + 2, none⟩ = some (.int .i64 ((rd_T49 l0 (ji9)).f2)) ∧ w'.cell? ⟨(ad342.add (((ji9)).toNat * 6)).block, (ad342.add (((ji9)).toNat * 6)).off + 3, none⟩ = some (.int .i64 ((rd_T49 l0 (ji9)).f3)) ∧ w'.cell? ⟨(ad342.add (((ji9)).toNat * 6)).block, (ad342.add (((ji9)).toNat * 6)).off + 4, none⟩ = some (.int .i64 ((rd_T49 l0 (ji9)).f4)) ∧ w'.cell? ⟨(ad342.add (((ji9)).toNat * 6)).block, (ad342.add (((ji9)).toNat * 6)).off + 5, none⟩ = some (.int .i64 ((rd_T49 l0 (ji9)).f5))) (ds := []) ⟨bN 47 0⟩ (by kernel_rfl) rfl rfl ⟨(blk_cell BK343.out 0).trans rfl, (blk_cell BK343.out 1).trans rfl, (blk_cell BK343.out 2).trans rfl, (blk_cell BK343.out 3).trans rfl, (blk_cell BK343.out 4).trans rfl, (blk_cell BK343.out 5).trans rfl, ((HB.out.cell (World.block_lt_of_cell? w _ hwz1_0)).trans hwz1_0), ((HB.out.cell (World.block_lt_of_cell? w _ hwz1_1)).trans hwz1_1), ((HB.out.cell (World.block_lt_of_cell? w _ hwz1_2)).trans hwz1_2), ((HB.out.cell (World.block_lt_of_cell? w _ hwz1_3)).trans hwz1_3), ((HB.out.cell (World.block_lt_of_cell? w _ hwz1_4)).trans hwz1_4), ((HB.out.cell (World.block_lt_of_cell? w _ hwz1_5)).trans hwz1_5)⟩ (fun hHeld => ?_); refine with_tabW hinterlandref09_Validate.tab7 hinterlandref09_Validate.bits7 (fun HT_ HW_ => ?_)
           generalize wz1.drew = wz2 at BK343 HB hxz1_0 hxz1_1 hxz1_2 hxz1_3 hxz1_4 hxz1_5 hHeld ⊢)
        | (refine start_ (n := 47) (S := fun w' => w'.cell? ⟨gb343, 0, none⟩ = some (.int .i64 ((rd_T49 l0 x3_1).f0)) ∧ w'.cell? ⟨gb343, 1, none⟩ = some (.int .i64 ((rd_T49 l0 x3_1).f1)) ∧ w'.cell? ⟨gb343, 2, none⟩ = some (.int .i64 ((rd_T49 l0 x3_1).f2)) ∧ w'.cell? ⟨gb343, 3, none⟩ = some (.int .i64 ((rd_T49 l0 x3_1).f3)) ∧ w'.cell? ⟨gb343, 4, none⟩ = some (.int .i64 ((rd_T49 l0 x3_1).f4)) ∧ w'.cell? ⟨gb343, 5, none⟩ = some (.int .i64 ((rd_T49 l0 x3_1).f5))) (ds := []) ⟨bN 47 0⟩ (by kernel_rfl) rfl rfl ⟨(blk_cell BK343.out 0).trans rfl, (blk_cell BK343.out 1).trans rfl, (blk_cell BK343.out 2).trans rfl, (blk_cell BK343.out 3).trans rfl, (blk_cell BK343.out 4).trans rfl, (blk_cell BK343.out 5).trans rfl⟩ (fun hHeld => ?_); refine with_tabW hinterlandref09_Validate.tab7 hinterlandref09_Validate.bits7 (fun HT_ HW_ => ?_)
           generalize wz1.drew = wz2 at BK343 HB hHeld ⊢)
        refine pu_ (i := 0) (N := some 18) (bA 1 47) HT_ rfl ?_; refine pu_ (i := 1) (N := some 19) (bA 2 47) HT_ rfl ?_; refine pu_ (i := 2) (N := some 20) (bA 3 47) HT_ rfl ?_
        first
        | (refine pu_ (i := 3) (N := some 21) (bA 4 47) HT_ rfl ?_)
        | (refine pn_ (i := 3) (N := some 21) (bA 4 47) HT_ rfl ?_)
        first
        | (refine pu_ (i := 4) (N := some 22) (bA 5 47) HT_ rfl ?_)
        | (refine pn_ (i := 4) (N := some 22) (bA 5 47) HT_ rfl ?_)
        first
        | (refine pu_ (i := 5) (N := some 23) (bA 6 47) HT_ rfl ?_)
        | (refine pn_ (i := 5) (N := some 23) (bA 6 47) HT_ rfl ?_)
        first
        | (refine pu_ (i := 6) (N := some 24) (bA 7 47) HT_ rfl ?_)
        | (refine pn_ (i := 6) (N := some 24) (bA 7 47) HT_ rfl ?_)
        first
        | (refine tk_ (i := 7) (N := some 25) (bA 8 47) HT_ HW_ hHeld rfl ?_)
        | (refine pn_ (i := 7) (N := some 25) (bA 8 47) HT_ rfl ?_)
        first
        | (refine tk_ (i := 8) (N := some 26) (bA 9 47) HT_ HW_ hHeld rfl ?_)
        | (refine pn_ (i := 8) (N := some 26) (bA 9 47) HT_ rfl ?_)
        first
        | (refine on_ (i := 9) (N := some 27) (bA 10 47) HT_ rfl (fun K hK => ?_)
           refine goes_ Try.func45 (by kernel_rfl) rfl #[.agg #[.int .i64 ((rd_T49 l0 (ji9)).f0), .int .i64 ((rd_T49 l0 (ji9)).f1), .int .i64 ((rd_T49 l0 (ji9)).f2), .int .i64 ((rd_T49 l0 (ji9)).f3), .int .i64 ((rd_T49 l0 (ji9)).f4), .int .i64 ((rd_T49 l0 (ji9)).f5)], .agg #[.int .i64 ((rd_T49 l0 x3_1).f0), .int .i64 ((rd_T49 l0 x3_1).f1), .int .i64 ((rd_T49 l0 x3_1).f2), .int .i64 ((rd_T49 l0 x3_1).f3), .int .i64 ((rd_T49 l0 x3_1).f4), .int .i64 ((rd_T49 l0 x3_1).f5)]] (by rfl) rfl rfl (by (try simp only [List.map_toArray, List.map_cons, List.map_nil]); first | done | (simp only [hji9]; rfl) | rfl | (simp only [List.length_drop, List.length_take]; rfl)) ?_
           with_reducible refine (hinterlandref09_less.calls ((rd_T49 l0 (ji9)).f0) ((rd_T49 l0 (ji9)).f1) ((rd_T49 l0 (ji9)).f2) ((rd_T49 l0 (ji9)).f3) ((rd_T49 l0 (ji9)).f4) ((rd_T49 l0 (ji9)).f5) ((rd_T49 l0 x3_1).f0) ((rd_T49 l0 x3_1).f1) ((rd_T49 l0 x3_1).f2) ((rd_T49 l0 x3_1).f3) ((rd_T49 l0 x3_1).f4) ((rd_T49 l0 x3_1).f5) _ _ A12.out).mono ?_
           rintro e wz3 ⟨rfl, hb⟩; refine ⟨_, rfl, ?_⟩; replace BK343 := bk_ BK343 hb; replace HB := Aside0.mk (below_step (dL1_ HB GE343) hb); (try clear hb); refine hK.out _ _ ⟨(blk_cell BK343.out 0).trans rfl, (blk_cell BK343.out 1).trans rfl, (blk_cell BK343.out 2).trans rfl, (blk_cell BK343.out 3).trans rfl, (blk_cell BK343.out 4).trans rfl, (blk_cell BK343.out 5).trans rfl, ((HB.out.cell (World.block_lt_of_cell? w _ hwz1_0)).trans hwz1_0), ((HB.out.cell (World.block_lt_of_cell? w _ hwz1_1)).trans hwz1_1), ((HB.out.cell (World.block_lt_of_cell? w _ hwz1_2)).trans hwz1_2), ((HB.out.cell (World.block_lt_of_cell? w _ hwz1_3)).trans hwz1_3), ((HB.out.cell (World.block_lt_of_cell? w _ hwz1_4)).trans hwz1_4), ((HB.out.cell (World.block_lt_of_cell? w _ hwz1_5)).trans hwz1_5)⟩ (fun hHeld => ?_); clear hK K; refine norm_ (a' := ?_) ?_ ?_
           rotate_left
           ·show Act.put _ (some 27) _ = _
            simp only [Act.put, sI_, s0_, sS_, i64_w, i32_w]
            rfl)
        | (refine pn_ (i := 9) (N := some 27) (bA 10 47) HT_ rfl ?_)
        first
        | (refine pu_ (i := 10) (N := some 28) (bA 11 47) HT_ rfl ?_)
        | (refine pn_ (i := 10) (N := some 28) (bA 11 47) HT_ rfl ?_)
        refine pu_ (i := 11) (N := some 29) (bA 12 47) HT_ rfl ?_; refine pu_ (i := 12) (N := some 30) (bA 13 47) HT_ rfl ?_
        first
        | (refine pu_ (i := 13) (N := some 31) (bA 14 47) HT_ rfl ?_)
        | (refine pn_ (i := 13) (N := some 31) (bA 14 47) HT_ rfl ?_)
        first
        | (refine tk_ (i := 14) (N := some 32) (bA 15 47) HT_ HW_ hHeld rfl ?_)
        | (refine tk_ (i := 14) (N := some 32) (bA 15 47) HT_ HW_ hHeld rfl ?_)
        | (refine pn_ (i := 14) (N := some 32) (bA 15 47) HT_ rfl ?_)
        first
        | (refine pu_ (i := 15) (N := some 33) (bA 16 47) HT_ rfl ?_)
        | (refine pn_ (i := 15) (N := some 33) (bA 16 47) HT_ rfl ?_)
        refine pu_ (i := 16) (N := some 34) (bA 17 47) HT_ rfl ?_; refine pu_ (i := 17) (N := some 35) (bA 18 47) HT_ rfl ?_
        first
        | (refine pu_ (i := 18) (N := some 36) (bA 19 47) HT_ rfl ?_)
        | (refine pn_ (i := 18) (N := some 36) (bA 19 47) HT_ rfl ?_)
        first
        | (refine tk_ (i := 19) (N := some 37) (bA 20 47) HT_ HW_ hHeld rfl ?_)
        | (refine tk_ (i := 19) (N := some 37) (bA 20 47) HT_ HW_ hHeld rfl ?_)
        | (refine pn_ (i := 19) (N := some 37) (bA 20 47) HT_ rfl ?_)
        first
        | (refine pu_ (i := 20) (N := some 38) (bA 21 47) HT_ rfl ?_)
        | (refine pn_ (i := 20) (N := some 38) (bA 21 47) HT_ rfl ?_)
        refine pu_ (i := 21) (N := some 39) (bA 22 47) HT_ rfl ?_; refine pu_ (i := 22) (N := some 40) (bA 23 47) HT_ rfl ?_
        first
        | (refine pu_ (i := 23) (N := some 41) (bA 24 47) HT_ rfl ?_)
        | (refine pn_ (i := 23) (N := some 41) (bA 24 47) HT_ rfl ?_)
        first
        | (refine tk_ (i := 24) (N := some 42) (bA 25 47) HT_ HW_ hHeld rfl ?_)
        | (refine tk_ (i := 24) (N := some 42) (bA 25 47) HT_ HW_ hHeld rfl ?_)
        | (refine pn_ (i := 24) (N := some 42) (bA 25 47) HT_ rfl ?_)
        first
        | (refine on_ (i := 25) (N := some 43) (bA 26 47) HT_ rfl (fun K hK => ?_)
           refine goes_ Try.func46 (by kernel_rfl) rfl #[.int .i64 ((rd_T49 l0 x3_1).f3), .int .i64 255] (by rfl) rfl rfl tA_ ?_
           with_reducible refine (hinterlandref09_Out.calls ((rd_T49 l0 x3_1).f3) 255 _ _ A22.out).mono ?_
           rintro e w' ⟨rfl, ⟨nd, rfl⟩⟩; refine ⟨_, rfl, ?_⟩; refine hK.out _ _ ⟨(blk_cell BK343.out 0).trans rfl, (blk_cell BK343.out 1).trans rfl, (blk_cell BK343.out 2).trans rfl, (blk_cell BK343.out 3).trans rfl, (blk_cell BK343.out 4).trans rfl, (blk_cell BK343.out 5).trans rfl, ((HB.out.cell (World.block_lt_of_cell? w _ hwz1_0)).trans hwz1_0), ((HB.out.cell (World.block_lt_of_cell? w _ hwz1_1)).trans hwz1_1), ((HB.out.cell (World.block_lt_of_cell? w _ hwz1_2)).trans hwz1_2), ((HB.out.cell (World.block_lt_of_cell? w _ hwz1_3)).trans hwz1_3), ((HB.out.cell (World.block_lt_of_cell? w _ hwz1_4)).trans hwz1_4), ((HB.out.cell (World.block_lt_of_cell? w _ hwz1_5)).trans hwz1_5)⟩ (fun hHeld => ?_); clear hK K; refine norm_ (a' := ?_) ?_ ?_
           rotate_left
           ·show Act.put _ (some 43) _ = _
            simp only [Act.put, sI_, s0_, sS_, i64_w, i32_w]
            rfl)
        | (refine on_ (i := 25) (N := some 43) (bA 26 47) HT_ rfl (fun K hK => ?_)
           refine goes_ Try.func46 (by kernel_rfl) rfl #[.int .i64 ((rd_T49 l0 x3_1).f3), .int .i64 255] (by rfl) rfl rfl tA_ ?_
           with_reducible refine (hinterlandref09_Out.calls ((rd_T49 l0 x3_1).f3) 255 _ _ A55.out).mono ?_
           rintro e w' ⟨rfl, ⟨nd, rfl⟩⟩; refine ⟨_, rfl, ?_⟩; refine hK.out _ _ ⟨(blk_cell BK343.out 0).trans rfl, (blk_cell BK343.out 1).trans rfl, (blk_cell BK343.out 2).trans rfl, (blk_cell BK343.out 3).trans rfl, (blk_cell BK343.out 4).trans rfl, (blk_cell BK343.out 5).trans rfl⟩ (fun hHeld => ?_); clear hK K; refine norm_ (a' := ?_) ?_ ?_
           rotate_left
           ·show Act.put _ (some 43) _ = _
            simp only [Act.put, sI_, s0_, sS_, i64_w, i32_w]
            rfl)
        | (refine pn_ (i := 25) (N := some 43) (bA 26 47) HT_ rfl ?_)
        refine pu_ (i := 26) (N := some 44) (bA 27 47) HT_ rfl ?_; refine pu_ (i := 27) (N := some 45) (bA 28 47) HT_ rfl ?_
        first
        | (refine pu_ (i := 28) (N := some 46) (bA 29 47) HT_ rfl ?_)
        | (refine pn_ (i := 28) (N := some 46) (bA 29 47) HT_ rfl ?_)
        first
        | (refine tk_ (i := 29) (N := some 47) (bA 30 47) HT_ HW_ hHeld rfl ?_)
        | (refine tk_ (i := 29) (N := some 47) (bA 30 47) HT_ HW_ hHeld rfl ?_)
        | (refine pn_ (i := 29) (N := some 47) (bA 30 47) HT_ rfl ?_)
        first
        | (refine on_ (i := 30) (N := some 48) (bA 31 47) HT_ rfl (fun K hK => ?_)
           refine goes_ Try.func46 (by kernel_rfl) rfl #[.int .i64 ((rd_T49 l0 x3_1).f5), .int .i64 1000000000000] (by rfl) rfl rfl tA_ ?_
           with_reducible refine (hinterlandref09_Out.calls ((rd_T49 l0 x3_1).f5) 1000000000000 _ _ A27.out).mono ?_
           rintro e w' ⟨rfl, ⟨nd, rfl⟩⟩; refine ⟨_, rfl, ?_⟩; refine hK.out _ _ ⟨(blk_cell BK343.out 0).trans rfl, (blk_cell BK343.out 1).trans rfl, (blk_cell BK343.out 2).trans rfl, (blk_cell BK343.out 3).trans rfl, (blk_cell BK343.out 4).trans rfl, (blk_cell BK343.out 5).trans rfl, ((HB.out.cell (World.block_lt_of_cell? w _ hwz1_0)).trans hwz1_0), ((HB.out.cell (World.block_lt_of_cell? w _ hwz1_1)).trans hwz1_1), ((HB.out.cell (World.block_lt_of_cell? w _ hwz1_2)).trans hwz1_2), ((HB.out.cell (World.block_lt_of_cell? w _ hwz1_3)).trans hwz1_3), ((HB.out.cell (World.block_lt_of_cell? w _ hwz1_4)).trans hwz1_4), ((HB.out.cell (World.block_lt_of_cell? w _ hwz1_5)).trans hwz1_5)⟩ (fun hHeld => ?_); clear hK K; refine norm_ (a' := ?_) ?_ ?_
           rotate_left
           ·show Act.put _ (some 48) _ = _
            simp only [Act.put, sI_, s0_, sS_, i64_w, i32_w]
            rfl)
        | (refine on_ (i := 30) (N := some 48) (bA 31 47) HT_ rfl (fun K hK => ?_)
           refine goes_ Try.func46 (by kernel_rfl) rfl #[.int .i64 ((rd_T49 l0 x3_1).f5), .int .i64 1000000000000] (by rfl) rfl rfl tA_ ?_
           with_reducible refine (hinterlandref09_Out.calls ((rd_T49 l0 x3_1).f5) 1000000000000 _ _ A59.out).mono ?_
           rintro e w' ⟨rfl, ⟨nd, rfl⟩⟩; refine ⟨_, rfl, ?_⟩; refine hK.out _ _ ⟨(blk_cell BK343.out 0).trans rfl, (blk_cell BK343.out 1).trans rfl, (blk_cell BK343.out 2).trans rfl, (blk_cell BK343.out 3).trans rfl, (blk_cell BK343.out 4).trans rfl, (blk_cell BK343.out 5).trans rfl⟩ (fun hHeld => ?_); clear hK K; refine norm_ (a' := ?_) ?_ ?_
           rotate_left
           ·show Act.put _ (some 48) _ = _
            simp only [Act.put, sI_, s0_, sS_, i64_w, i32_w]
            rfl)
        | (refine pn_ (i := 30) (N := some 48) (bA 31 47) HT_ rfl ?_)
        refine pu_ (i := 31) (N := some 49) (bA 32 47) HT_ rfl ?_; refine pu_ (i := 32) (N := some 50) (bA 33 47) HT_ rfl ?_
        first
        | (refine pu_ (i := 33) (N := some 51) (bA 34 47) HT_ rfl ?_)
        | (refine pn_ (i := 33) (N := some 51) (bA 34 47) HT_ rfl ?_)
        first
        | (refine tk_ (i := 34) (N := some 52) (bA 35 47) HT_ HW_ hHeld rfl ?_)
        | (refine tk_ (i := 34) (N := some 52) (bA 35 47) HT_ HW_ hHeld rfl ?_)
        | (refine pn_ (i := 34) (N := some 52) (bA 35 47) HT_ rfl ?_)
        first
        | (refine on_ (i := 35) (N := some 53) (bA 36 47) HT_ rfl (fun K hK => ?_)
           refine goes_ Try.func46 (by kernel_rfl) rfl #[.int .i64 ((rd_T49 l0 x3_1).f0), .int .i64 1000000] (by rfl) rfl rfl tA_ ?_
           with_reducible refine (hinterlandref09_Out.calls ((rd_T49 l0 x3_1).f0) 1000000 _ _ A32.out).mono ?_
           rintro e w' ⟨rfl, ⟨nd, rfl⟩⟩; refine ⟨_, rfl, ?_⟩; refine hK.out _ _ ⟨(blk_cell BK343.out 0).trans rfl, (blk_cell BK343.out 1).trans rfl, (blk_cell BK343.out 2).trans rfl, (blk_cell BK343.out 3).trans rfl, (blk_cell BK343.out 4).trans rfl, (blk_cell BK343.out 5).trans rfl, ((HB.out.cell (World.block_lt_of_cell? w _ hwz1_0)).trans hwz1_0), ((HB.out.cell (World.block_lt_of_cell? w _ hwz1_1)).trans hwz1_1), ((HB.out.cell (World.block_lt_of_cell? w _ hwz1_2)).trans hwz1_2), ((HB.out.cell (World.block_lt_of_cell? w _ hwz1_3)).trans hwz1_3), ((HB.out.cell (World.block_lt_of_cell? w _ hwz1_4)).trans hwz1_4), ((HB.out.cell (World.block_lt_of_cell? w _ hwz1_5)).trans hwz1_5)⟩ (fun hHeld => ?_); clear hK K; refine norm_ (a' := ?_) ?_ ?_
           rotate_left
           ·show Act.put _ (some 53) _ = _
            simp only [Act.put, sI_, s0_, sS_, i64_w, i32_w]
            rfl)
        | (refine on_ (i := 35) (N := some 53) (bA 36 47) HT_ rfl (fun K hK => ?_)
           refine goes_ Try.func46 (by kernel_rfl) rfl #[.int .i64 ((rd_T49 l0 x3_1).f0), .int .i64 1000000] (by rfl) rfl rfl tA_ ?_
           with_reducible refine (hinterlandref09_Out.calls ((rd_T49 l0 x3_1).f0) 1000000 _ _ A63.out).mono ?_
           rintro e w' ⟨rfl, ⟨nd, rfl⟩⟩; refine ⟨_, rfl, ?_⟩; refine hK.out _ _ ⟨(blk_cell BK343.out 0).trans rfl, (blk_cell BK343.out 1).trans rfl, (blk_cell BK343.out 2).trans rfl, (blk_cell BK343.out 3).trans rfl, (blk_cell BK343.out 4).trans rfl, (blk_cell BK343.out 5).trans rfl⟩ (fun hHeld => ?_); clear hK K; refine norm_ (a' := ?_) ?_ ?_
           rotate_left
           ·show Act.put _ (some 53) _ = _
            simp only [Act.put, sI_, s0_, sS_, i64_w, i32_w]
            rfl)
        | (refine pn_ (i := 35) (N := some 53) (bA 36 47) HT_ rfl ?_)
        refine pu_ (i := 36) (N := some 54) (bA 37 47) HT_ rfl ?_; refine pu_ (i := 37) (N := some 55) (bA 38 47) HT_ rfl ?_
        first
        | (refine pu_ (i := 38) (N := some 56) (bA 39 47) HT_ rfl ?_)
        | (refine pn_ (i := 38) (N := some 56) (bA 39 47) HT_ rfl ?_)
        first
        | (refine tk_ (i := 39) (N := some 57) (bA 40 47) HT_ HW_ hHeld rfl ?_)
        | (refine tk_ (i := 39) (N := some 57) (bA 40 47) HT_ HW_ hHeld rfl ?_)
        | (refine pn_ (i := 39) (N := some 57) (bA 40 47) HT_ rfl ?_)
        first
        | (refine on_ (i := 40) (N := some 58) (bA 41 47) HT_ rfl (fun K hK => ?_)
           refine goes_ Try.func46 (by kernel_rfl) rfl #[.int .i64 ((rd_T49 l0 x3_1).f1), .int .i64 1000000] (by rfl) rfl rfl tA_ ?_
           with_reducible refine (hinterlandref09_Out.calls ((rd_T49 l0 x3_1).f1) 1000000 _ _ A37.out).mono ?_
           rintro e w' ⟨rfl, ⟨nd, rfl⟩⟩; refine ⟨_, rfl, ?_⟩; refine hK.out _ _ ⟨(blk_cell BK343.out 0).trans rfl, (blk_cell BK343.out 1).trans rfl, (blk_cell BK343.out 2).trans rfl, (blk_cell BK343.out 3).trans rfl, (blk_cell BK343.out 4).trans rfl, (blk_cell BK343.out 5).trans rfl, ((HB.out.cell (World.block_lt_of_cell? w _ hwz1_0)).trans hwz1_0), ((HB.out.cell (World.block_lt_of_cell? w _ hwz1_1)).trans hwz1_1), ((HB.out.cell (World.block_lt_of_cell? w _ hwz1_2)).trans hwz1_2), ((HB.out.cell (World.block_lt_of_cell? w _ hwz1_3)).trans hwz1_3), ((HB.out.cell (World.block_lt_of_cell? w _ hwz1_4)).trans hwz1_4), ((HB.out.cell (World.block_lt_of_cell? w _ hwz1_5)).trans hwz1_5)⟩ (fun hHeld => ?_); clear hK K; refine norm_ (a' := ?_) ?_ ?_
           rotate_left
           ·show Act.put _ (some 58) _ = _
            simp only [Act.put, sI_, s0_, sS_, i64_w, i32_w]
            rfl)
        | (refine on_ (i := 40) (N := some 58) (bA 41 47) HT_ rfl (fun K hK => ?_)
           refine goes_ Try.func46 (by kernel_rfl) rfl #[.int .i64 ((rd_T49 l0 x3_1).f1), .int .i64 1000000] (by rfl) rfl rfl tA_ ?_
           with_reducible refine (hinterlandref09_Out.calls ((rd_T49 l0 x3_1).f1) 1000000 _ _ A67.out).mono ?_
           rintro e w' ⟨rfl, ⟨nd, rfl⟩⟩; refine ⟨_, rfl, ?_⟩; refine hK.out _ _ ⟨(blk_cell BK343.out 0).trans rfl, (blk_cell BK343.out 1).trans rfl, (blk_cell BK343.out 2).trans rfl, (blk_cell BK343.out 3).trans rfl, (blk_cell BK343.out 4).trans rfl, (blk_cell BK343.out 5).trans rfl⟩ (fun hHeld => ?_); clear hK K; refine norm_ (a' := ?_) ?_ ?_
           rotate_left
           ·show Act.put _ (some 58) _ = _
            simp only [Act.put, sI_, s0_, sS_, i64_w, i32_w]
            rfl)
        | (refine pn_ (i := 40) (N := some 58) (bA 41 47) HT_ rfl ?_)
        refine pu_ (i := 41) (N := some 59) (bA 42 47) HT_ rfl ?_; refine pu_ (i := 42) (N := some 60) (bA 43 47) HT_ rfl ?_
        first
        | (refine pu_ (i := 43) (N := some 61) (bA 44 47) HT_ rfl ?_)
        | (refine pn_ (i := 43) (N := some 61) (bA 44 47) HT_ rfl ?_)
        first
        | (refine tk_ (i := 44) (N := some 62) (bA 45 47) HT_ HW_ hHeld rfl ?_)
        | (refine tk_ (i := 44) (N := some 62) (bA 45 47) HT_ HW_ hHeld rfl ?_)
        | (refine pn_ (i := 44) (N := some 62) (bA 45 47) HT_ rfl ?_)
        first
        | (refine on_ (i := 45) (N := some 63) (bA 46 47) HT_ rfl (fun K hK => ?_)
           refine goes_ Try.func46 (by kernel_rfl) rfl #[.int .i64 ((rd_T49 l0 x3_1).f2), .int .i64 1000000] (by rfl) rfl rfl tA_ ?_
           with_reducible refine (hinterlandref09_Out.calls ((rd_T49 l0 x3_1).f2) 1000000 t350 _ A42.out).mono ?_
           rintro e w' ⟨rfl, ⟨nd, rfl⟩⟩; refine ⟨_, rfl, ?_⟩; refine hK.out _ _ ⟨(blk_cell BK343.out 0).trans rfl, (blk_cell BK343.out 1).trans rfl, (blk_cell BK343.out 2).trans rfl, (blk_cell BK343.out 3).trans rfl, (blk_cell BK343.out 4).trans rfl, (blk_cell BK343.out 5).trans rfl, ((HB.out.cell (World.block_lt_of_cell? w _ hwz1_0)).trans hwz1_0), ((HB.out.cell (World.block_lt_of_cell? w _ hwz1_1)).trans hwz1_1), ((HB.out.cell (World.block_lt_of_cell? w _ hwz1_2)).trans hwz1_2), ((HB.out.cell (World.block_lt_of_cell? w _ hwz1_3)).trans hwz1_3), ((HB.out.cell (World.block_lt_of_cell? w _ hwz1_4)).trans hwz1_4), ((HB.out.cell (World.block_lt_of_cell? w _ hwz1_5)).trans hwz1_5)⟩ (fun hHeld => ?_); clear hK K; refine norm_ (a' := ?_) ?_ ?_
           rotate_left
           ·show Act.put _ (some 63) _ = _
            simp only [Act.put, sI_, s0_, sS_, i64_w, i32_w]
            rfl)
        | (refine on_ (i := 45) (N := some 63) (bA 46 47) HT_ rfl (fun K hK => ?_)
           refine goes_ Try.func46 (by kernel_rfl) rfl #[.int .i64 ((rd_T49 l0 x3_1).f2), .int .i64 1000000] (by rfl) rfl rfl tA_ ?_
           with_reducible refine (hinterlandref09_Out.calls ((rd_T49 l0 x3_1).f2) 1000000 t355 _ A71.out).mono ?_
           rintro e w' ⟨rfl, ⟨nd, rfl⟩⟩; refine ⟨_, rfl, ?_⟩; refine hK.out _ _ ⟨(blk_cell BK343.out 0).trans rfl, (blk_cell BK343.out 1).trans rfl, (blk_cell BK343.out 2).trans rfl, (blk_cell BK343.out 3).trans rfl, (blk_cell BK343.out 4).trans rfl, (blk_cell BK343.out 5).trans rfl⟩ (fun hHeld => ?_); clear hK K; refine norm_ (a' := ?_) ?_ ?_
           rotate_left
           ·show Act.put _ (some 63) _ = _
            simp only [Act.put, sI_, s0_, sS_, i64_w, i32_w]
            rfl)
        | (refine pn_ (i := 45) (N := some 63) (bA 46 47) HT_ rfl ?_)
        refine pu_ (i := 46) (N := some 64) (bA 47 47) HT_ rfl ?_; refine done_ (done_of HT_.out (by kernel_rfl)) ?_
        try go_wp2
        first
        | (go_meet
           case rel => exact ⟨_, (true), tS_, H', ⟨by have := HK1.out; first | omega | exact Nat.le_refl _⟩, ⟨dB_ BK343⟩, ⟨dL1_ HB GE343⟩⟩)
        | (go_meet
           case rel => exact ⟨_, (t350), tS_, H', ⟨by have := HK1.out; first | omega | exact Nat.le_refl _⟩, ⟨dB_ BK343⟩, ⟨dL1_ HB GE343⟩⟩)
        | (go_meet
           case rel => exact ⟨_, (t355), tS_, H', ⟨by have := HK1.out; first | omega | exact Nat.le_refl _⟩, ⟨dB_ BK343⟩, ⟨dL1_ HB GE343⟩⟩))
      case rest =>
       clear HC5; (try clear c4); obtain ⟨kq, x64_4, rfl, HA, HJ4, BK343, HB⟩ := hcut
       cases kq with
       | zero => exact absurd HA.out (by simp [hinterlandref09_Validate.j1])
       | succ kj4 =>
        have H := HA.out; clear HA; simp only [hinterlandref09_Validate.j1] at H
        by_cases c74 : x64_4 = true
        ·subst c74; rw [if_pos rfl] at H; obtain rfl := Option.some.inj H; go_wp2
         go_ret
         exact ⟨tE_, dL1_ HB GE343⟩
        ·replace c74 := Bool.eq_false_iff.mpr c74; subst c74; rw [if_neg (show ¬ (false = true) by decide)] at H; have H' := Aside0.mk H; clear H; go_wp2
         go_roundg kj4
         case measure => have := HK1.out; have := HJ4.out; omega
         case rel => exact ⟨(wrap64 (x3_1 + 1)), tS_, H', ⟨by have := HK1.out; have := HJ4.out; omega⟩, ⟨dL1_ HB GE343⟩⟩
     ·rw [if_neg c4] at H; exact absurd H (by simp)
    ·rw [if_neg c3] at H; have c3b0 : decide (x3_1 < (l0.length : Int)) = false := decide_eq_false c3; clear c3; obtain rfl := Option.some.inj H; go_wp2
     go_ret
     exact ⟨tE_, dL_ HB⟩

end Go.Proofs.Ytgnahbjpockdmab.Q
namespace Go.Proofs.Ytgnahbjpockdmab.Q
open Go.RowKit Go.Proofs.YtgnahbjpockdmabPrs Go.Proofs.YtgnahbjpockdmabOwn Go.Proofs.YtgnahbjpockdmabW.PrintWords Go.Proofs.YtgnahbjpockdmabW.PrintLast Go.Proofs.YtgnahbjpockdmabW.PrintMore
attribute [local go_sem] max2_int min2_int max_two min_two max_three min_three max_four min_four   -- for this text's walks alone
set_option linter.unusedVariables false
set_option linter.unusedSimpArgs false

/-! ### hinterlandsame_List_int: function 27 -/
def hinterlandsame_List_int.l0 : Nat → List Int → List Int → Int → Option (Bool)
  | 0, _, _, _ => none
  | k + 1, x0, x1, x5 => if x5 < (x0.length : Int) then (if 0 ≤ x5 then (if x5 < (x1.length : Int) then (if (rd x0 x5) = (rd x1 x5) then (hinterlandsame_List_int.l0 k x0 x1 (wrap64 (x5 + 1))) else (some false)) else (none)) else (none)) else (some true)
def hinterlandsame_List_int.f (k : Nat) (l0 : List Int) (l1 : List Int) : Option (Bool) := if (l0.length : Int) = (l1.length : Int) then (hinterlandsame_List_int.l0 k l0 l1 0) else (some false)
theorem hinterlandsame_List_int.mono_l : ∀ k, (∀ y0 y1 y2, LeO (hinterlandsame_List_int.l0 k y0 y1 y2) (hinterlandsame_List_int.l0 (k + 1) y0 y1 y2))
  | 0 => fun _ _ _ r h => by simp [hinterlandsame_List_int.l0] at h
  | k + 1 => by
    have ih0 := hinterlandsame_List_int.mono_l k
    · intro y0 y1 y2
      unfold hinterlandsame_List_int.l0
      repeat' first
      | (with_reducible first | apply ih0 | exact LeO.refl _ | exact LeO.none _ | refine LeO.ite ?_ ?_ | refine LeO.bind ?_ (fun _ => ?_))
theorem hinterlandsame_List_int.mono : ∀ a0 a1 k, LeO (hinterlandsame_List_int.f k a0 a1) (hinterlandsame_List_int.f (k + 1) a0 a1) := by
  intro a0 a1 k; have ih0 := hinterlandsame_List_int.mono_l k
  unfold hinterlandsame_List_int.f
  repeat' first
      | (with_reducible first | apply ih0 | exact LeO.refl _ | exact LeO.none _ | refine LeO.ite ?_ ?_ | refine LeO.bind ?_ (fun _ => ?_))
set_option maxHeartbeats 8000000 in
set_option maxRecDepth 100000 in
theorem hinterlandsame_List_int.calls (k : Nat) (A0 : Option Addr) (c0 : Nat) (l0 : List Int) (A1 : Option Addr) (c1 : Nat) (l1 : List Int) (r : Bool) (w : World) (hr0 : Kd.C (Kd.int .i64) w A0 l0.length l0) (hc0 : l0.length ≤ c0) (hr1 : Kd.C (Kd.int .i64) w A1 l1.length l1) (hc1 : l1.length ≤ c1) (h : hinterlandsame_List_int.f k l0 l1 = some r) :
    Calls Try.prog 27 #[.slice A0 l0.length c0, .slice A1 l1.length c1] w fun e w' => e = .returned (.bool r) ∧ Drawn0 w w' := by
 have HR0 := Aside0.mk hr0; have HC0 := Aside0.mk hc0; clear hr0 hc0; have HR1 := Aside0.mk hr1; have HC1 := Aside0.mk hc1; clear hr1 hc1; have H : (if (l0.length : Int) = (l1.length : Int) then (hinterlandsame_List_int.l0 k l0 l1 0) else (some false)) = some r := h; clear h
 by_cases c3 : (l0.length : Int) = (l1.length : Int)
 ·rw [if_pos c3] at H; have c3b0 : ((l0.length : Int) == (l1.length : Int)) = true := beq_iff_eq.mpr c3; have c3b1 : ((l0.length : Int) != (l1.length : Int)) = false := bne_eq_false_iff_eq.mpr c3; have c3b2 : (l0.length == l1.length) = true := by first | simpa using c3 | (simp at c3 ⊢; omega)
  clear c3; have H' := Aside0.mk H; clear H
  go_enter Try.func27, Try.ntmps27
  go_wp2
  repeat (go_quiet (fail); try go_wp2)
  go_loopg [5] k (fun kq v5 w' => ∃ (x5_1 : Int), v5 = .int .i64 x5_1 ∧ Aside0 (hinterlandsame_List_int.l0 kq l0 l1 x5_1 = some r) ∧ Aside0 (kq ≤ k) ∧ Drawn0 w w')
  case atStart => exact ⟨(0), tS_, H', ⟨Nat.le_refl _⟩, by repeat (first | exact Drawn0.refl _ | apply Drawn0.step)⟩
  case round =>
   clear H'; (try clear c1); (try clear c3); (try clear c3b0); (try clear c3b1); (try clear c3b2); obtain ⟨x5_1, rfl, HA, HK1, ⟨m1, rfl⟩⟩ := hrel
   cases gk with
   | zero => exact absurd HA.out (by simp [hinterlandsame_List_int.l0])
   | succ k1 =>
    have H := HA.out; clear HA; simp only [hinterlandsame_List_int.l0] at H
    by_cases c4 : x5_1 < (l0.length : Int)
    ·rw [if_pos c4] at H; have c4b0 : decide (x5_1 < (l0.length : Int)) = true := decide_eq_true c4; clear c4
     by_cases c5 : 0 ≤ x5_1
     ·rw [if_pos c5] at H; have c5b0 : decide (0 ≤ x5_1) = true := decide_eq_true c5; clear c5
      by_cases c6 : x5_1 < (l1.length : Int)
      ·rw [if_pos c6] at H; have c6b0 : decide (x5_1 < (l1.length : Int)) = true := decide_eq_true c6; clear c6
       by_cases c7 : (rd l0 x5_1) = (rd l1 x5_1)
       ·rw [if_pos c7] at H; have c7b0 : ((rd l0 x5_1) == (rd l1 x5_1)) = true := beq_iff_eq.mpr c7; have c7b1 : ((rd l0 x5_1) != (rd l1 x5_1)) = false := bne_eq_false_iff_eq.mpr c7; clear c7; have H' := Aside0.mk H; clear H; have p413 : 0 ≤ (x5_1 : Int) := of_decide_eq_true tW_; have q413 : x5_1 < (l0.length : Int) := of_decide_eq_true tW_; obtain ⟨ad413, e413, hx413_0⟩ := Kd.at_int HR0.out x5_1 p413 q413; cases e413; replace p413 := eq_true p413; replace q413 := eq_true q413; have p414 : 0 ≤ (x5_1 : Int) := of_decide_eq_true tW_; have q414 : x5_1 < (l1.length : Int) := of_decide_eq_true tW_; obtain ⟨ad414, e414, hx414_0⟩ := Kd.at_int HR1.out x5_1 p414 q414; cases e414; replace p414 := eq_true p414; replace q414 := eq_true q414; go_wp2
        repeat (go_quiet (fail); try go_wp2)
        go_roundg k1
        case measure => have := HK1.out; omega
        case rel => exact ⟨(wrap64 (x5_1 + 1)), tS_, H', ⟨by have := HK1.out; omega⟩, by repeat (first | exact Drawn0.refl _ | apply Drawn0.step)⟩
       ·rw [if_neg c7] at H; have c7b0 : ((rd l0 x5_1) == (rd l1 x5_1)) = false := beq_eq_false_iff_ne.mpr c7; have c7b1 : ((rd l0 x5_1) != (rd l1 x5_1)) = true := bne_iff_ne.mpr c7; obtain rfl := Option.some.inj H; have p413 : 0 ≤ (x5_1 : Int) := of_decide_eq_true tW_; have q413 : x5_1 < (l0.length : Int) := of_decide_eq_true tW_; obtain ⟨ad413, e413, hx413_0⟩ := Kd.at_int HR0.out x5_1 p413 q413; cases e413; replace p413 := eq_true p413; replace q413 := eq_true q413; have p414 : 0 ≤ (x5_1 : Int) := of_decide_eq_true tW_; have q414 : x5_1 < (l1.length : Int) := of_decide_eq_true tW_; obtain ⟨ad414, e414, hx414_0⟩ := Kd.at_int HR1.out x5_1 p414 q414; cases e414; replace p414 := eq_true p414; replace q414 := eq_true q414; go_wp2
        repeat (go_quiet (fail); try go_wp2)
        go_ret
        exact ⟨tS_, by repeat (first | exact Drawn0.refl _ | apply Drawn0.step)⟩
      ·rw [if_neg c6] at H; exact absurd H (by simp)
     ·rw [if_neg c5] at H; exact absurd H (by simp)
    ·rw [if_neg c4] at H; have c4b0 : decide (x5_1 < (l0.length : Int)) = false := decide_eq_false c4; clear c4; obtain rfl := Option.some.inj H; go_wp2
     repeat (go_quiet (fail); try go_wp2)
     go_ret
     exact ⟨tS_, by repeat (first | exact Drawn0.refl _ | apply Drawn0.step)⟩
 ·rw [if_neg c3] at H; have c3b0 : ((l0.length : Int) == (l1.length : Int)) = false := beq_eq_false_iff_ne.mpr c3; have c3b1 : ((l0.length : Int) != (l1.length : Int)) = true := bne_iff_ne.mpr c3; have c3b2 : (l0.length == l1.length) = false := by first | simpa using c3 | (simp at c3 ⊢; omega)
  obtain rfl := Option.some.inj H
  go_enter Try.func27, Try.ntmps27
  go_wp2
  repeat (go_quiet (fail); try go_wp2)
  go_ret
  exact ⟨tS_, by repeat (first | exact Drawn0.refl _ | apply Drawn0.step)⟩

end Go.Proofs.Ytgnahbjpockdmab.Q
