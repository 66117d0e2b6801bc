-- PRINTED by print.py out of the translation. Not trusted: Lean checks it.
import Derived.Test.YtldbkigenaakkaaGreatDoorPrs
import Derived.Test.YtldbkigenaakkaaGreatDoorQ0
import Derived.Test.YtldbkigenaakkaaGreatDoorQ8
namespace Go.Proofs.YtldbkigenaakkaaGreatDoor.Q
open Go.RowKit Go.Proofs.YtldbkigenaakkaaGreatDoorPrs Go.Proofs.YtldbkigenaakkaaGreatDoorOwn Go.Proofs.YtldbkigenaakkaaGreatDoorW.PrintWords Go.Proofs.YtldbkigenaakkaaGreatDoorW.PrintLast Go.Proofs.YtldbkigenaakkaaGreatDoorW.PrintMore
attribute [local go_sem] max2_int min2_int max_two min_two max_three min_three max_four min_four   -- for this text's walks alone
set_option linter.unusedVariables false
set_option linter.unusedSimpArgs false

/-! ### land_Validate: function 8 -/
mutual
def land_Validate.j0 : Nat → Bool → Int → Int → List Int → Option (Int)
  | 0, _, _, _, _ => none
  | k + 1, x38, x164000, x164001, x164002 => if x38 = true then (some 1) else (land_Validate.l0 k x164002 (x164002.length : Int) 0 x164000 x164001 x164002)
def land_Validate.l0 : Nat → List Int → Int → Int → Int → Int → List Int → Option (Int)
  | 0, _, _, _, _, _, _ => none
  | k + 1, x40, x41, x42, x164000, x164001, x164002 => if x42 < x41 then (if 0 ≤ x42 then (if x42 < (x40.length : Int) then (if (rd x40 x42) < 0 then (land_Validate.j2 k x40 x41 x42 true x164000 x164001 x164002) else (land_Validate.j2 k x40 x41 x42 (decide ((rd x40 x42) > 15)) x164000 x164001 x164002)) else (none)) else (none)) else (land_Validate.l1 k 0 x164000 x164001 x164002)
def land_Validate.j2 : Nat → List Int → Int → Int → Bool → Int → Int → List Int → Option (Int)
  | 0, _, _, _, _, _, _, _ => none
  | k + 1, x40, x41, x42, x51, x164000, x164001, x164002 => if x51 = true then (some 1) else (land_Validate.l0 k x40 x41 (wrap64 (x42 + 1)) x164000 x164001 x164002)
def land_Validate.l1 : Nat → Int → Int → Int → List Int → Option (Int)
  | 0, _, _, _, _ => none
  | k + 1, x5, x164000, x164001, x164002 => if x5 ≤ x164001 then (land_Validate.l2 k x5 0 x164000 x164001 x164002) else (some 0)
def land_Validate.l2 : Nat → Int → Int → Int → Int → List Int → Option (Int)
  | 0, _, _, _, _, _ => none
  | k + 1, x5, x6, x164000, x164001, x164002 => if x6 ≤ x164000 then (if 0 ≤ (wrap64 ((wrap64 (x5 * (wrap64 (x164000 + 1)))) + x6)) then (if (wrap64 ((wrap64 (x5 * (wrap64 (x164000 + 1)))) + x6)) < (x164002.length : Int) then (if x6 < x164000 then (if 0 ≤ (wrap64 ((wrap64 ((wrap64 (x5 * (wrap64 (x164000 + 1)))) + x6)) + 1)) then (if (wrap64 ((wrap64 ((wrap64 (x5 * (wrap64 (x164000 + 1)))) + x6)) + 1)) < (x164002.length : Int) then ((land_apart.f (rd x164002 (wrap64 ((wrap64 (x5 * (wrap64 (x164000 + 1)))) + x6))) (rd x164002 (wrap64 ((wrap64 ((wrap64 (x5 * (wrap64 (x164000 + 1)))) + x6)) + 1)))).bind fun t167 => (if t167 = true then (land_Validate.j5 k x5 x6 true x164000 x164001 x164002) else (if x5 < x164001 then (if 0 ≤ (wrap64 ((wrap64 ((wrap64 (x5 + 1)) * (wrap64 (x164000 + 1)))) + x6)) then (if (wrap64 ((wrap64 ((wrap64 (x5 + 1)) * (wrap64 (x164000 + 1)))) + x6)) < (x164002.length : Int) then ((land_apart.f (rd x164002 (wrap64 ((wrap64 (x5 * (wrap64 (x164000 + 1)))) + x6))) (rd x164002 (wrap64 ((wrap64 ((wrap64 (x5 + 1)) * (wrap64 (x164000 + 1)))) + x6)))).bind fun t169 => (land_Validate.j5 k x5 x6 t169 x164000 x164001 x164002)) else (none)) else (none)) else (land_Validate.j5 k x5 x6 false x164000 x164001 x164002)))) else (none)) else (none)) else (if x5 < x164001 then (if 0 ≤ (wrap64 ((wrap64 ((wrap64 (x5 + 1)) * (wrap64 (x164000 + 1)))) + x6)) then (if (wrap64 ((wrap64 ((wrap64 (x5 + 1)) * (wrap64 (x164000 + 1)))) + x6)) < (x164002.length : Int) then ((land_apart.f (rd x164002 (wrap64 ((wrap64 (x5 * (wrap64 (x164000 + 1)))) + x6))) (rd x164002 (wrap64 ((wrap64 ((wrap64 (x5 + 1)) * (wrap64 (x164000 + 1)))) + x6)))).bind fun t171 => (land_Validate.j5 k x5 x6 t171 x164000 x164001 x164002)) else (none)) else (none)) else (land_Validate.j5 k x5 x6 false x164000 x164001 x164002))) else (none)) else (none)) else (land_Validate.l1 k (wrap64 (x5 + 1)) x164000 x164001 x164002)
def land_Validate.j5 : Nat → Int → Int → Bool → Int → Int → List Int → Option (Int)
  | 0, _, _, _, _, _, _ => none
  | k + 1, x5, x6, x117, x164000, x164001, x164002 => if x117 = true then (some 5) else (land_Validate.l2 k x5 (wrap64 (x6 + 1)) x164000 x164001 x164002)
end
def land_Validate.f (k : Nat) (a0_0 : Int) (a0_1 : Int) (l0_2 : List Int) : Option (Int) := if a0_0 < 4 then (land_Validate.j0 k true a0_0 a0_1 l0_2) else (if a0_0 > 32 then (land_Validate.j0 k true a0_0 a0_1 l0_2) else (if a0_1 < 4 then (land_Validate.j0 k true a0_0 a0_1 l0_2) else (if a0_1 > 32 then (land_Validate.j0 k true a0_0 a0_1 l0_2) else (land_Validate.j0 k ((l0_2.length : Int) != (wrap64 ((wrap64 (a0_0 + 1)) * (wrap64 (a0_1 + 1))))) a0_0 a0_1 l0_2))))
theorem land_Validate.mono_l : ∀ k, (∀ y0 y1 y2 y3, LeO (land_Validate.j0 k y0 y1 y2 y3) (land_Validate.j0 (k + 1) y0 y1 y2 y3)) ∧ (∀ y0 y1 y2 y3 y4 y5, LeO (land_Validate.l0 k y0 y1 y2 y3 y4 y5) (land_Validate.l0 (k + 1) y0 y1 y2 y3 y4 y5)) ∧ (∀ y0 y1 y2 y3 y4 y5 y6, LeO (land_Validate.j2 k y0 y1 y2 y3 y4 y5 y6) (land_Validate.j2 (k + 1) y0 y1 y2 y3 y4 y5 y6)) ∧ (∀ y0 y1 y2 y3, LeO (land_Validate.l1 k y0 y1 y2 y3) (land_Validate.l1 (k + 1) y0 y1 y2 y3)) ∧ (∀ y0 y1 y2 y3 y4, LeO (land_Validate.l2 k y0 y1 y2 y3 y4) (land_Validate.l2 (k + 1) y0 y1 y2 y3 y4)) ∧ (∀ y0 y1 y2 y3 y4 y5, LeO (land_Validate.j5 k y0 y1 y2 y3 y4 y5) (land_Validate.j5 (k + 1) y0 y1 y2 y3 y4 y5))
  | 0 => ⟨fun _ _ _ _ r h => by simp [land_Validate.j0] at h, fun _ _ _ _ _ _ r h => by simp [land_Validate.l0] at h, fun _ _ _ _ _ _ _ r h => by simp [land_Validate.j2] at h, fun _ _ _ _ r h => by simp [land_Validate.l1] at h, fun _ _ _ _ _ r h => by simp [land_Validate.l2] at h, fun _ _ _ _ _ _ r h => by simp [land_Validate.j5] at h⟩
  | k + 1 => by
    obtain ⟨ih0, ih1, ih2, ih3, ih4, ih5⟩ := land_Validate.mono_l k; refine ⟨?_, ?_, ?_, ?_, ?_, ?_⟩
    · intro y0 y1 y2 y3
      unfold land_Validate.j0
      repeat' first
      | (with_reducible first | apply ih0 | apply ih1 | apply ih2 | apply ih3 | apply ih4 | apply ih5 | exact LeO.refl _ | exact LeO.none _ | refine LeO.ite ?_ ?_ | refine LeO.bind ?_ (fun _ => ?_))
    · intro y0 y1 y2 y3 y4 y5
      unfold land_Validate.l0
      repeat' first
      | (with_reducible first | apply ih0 | apply ih1 | apply ih2 | apply ih3 | apply ih4 | apply ih5 | exact LeO.refl _ | exact LeO.none _ | refine LeO.ite ?_ ?_ | refine LeO.bind ?_ (fun _ => ?_))
    · intro y0 y1 y2 y3 y4 y5 y6
      unfold land_Validate.j2
      repeat' first
      | (with_reducible first | apply ih0 | apply ih1 | apply ih2 | apply ih3 | apply ih4 | apply ih5 | exact LeO.refl _ | exact LeO.none _ | refine LeO.ite ?_ ?_ | refine LeO.bind ?_ (fun _ => ?_))
    · intro y0 y1 y2 y3
      unfold land_Validate.l1
      repeat' first
      | (with_reducible first | apply ih0 | apply ih1 | apply ih2 | apply ih3 | apply ih4 | apply ih5 | exact LeO.refl _ | exact LeO.none _ | refine LeO.ite ?_ ?_ | refine LeO.bind ?_ (fun _ => ?_))
    · intro y0 y1 y2 y3 y4
      unfold land_Validate.l2
      repeat' first
      | (with_reducible first | apply ih0 | apply ih1 | apply ih2 | apply ih3 | apply ih4 | apply ih5 | exact LeO.refl _ | exact LeO.none _ | refine LeO.ite ?_ ?_ | refine LeO.bind ?_ (fun _ => ?_))
    · intro y0 y1 y2 y3 y4 y5
      unfold land_Validate.j5
      repeat' first
      | (with_reducible first | apply ih0 | apply ih1 | apply ih2 | apply ih3 | apply ih4 | apply ih5 | exact LeO.refl _ | exact LeO.none _ | refine LeO.ite ?_ ?_ | refine LeO.bind ?_ (fun _ => ?_))
theorem land_Validate.mono : ∀ a0 a1 a2 k, LeO (land_Validate.f k a0 a1 a2) (land_Validate.f (k + 1) a0 a1 a2) := by
  intro a0 a1 a2 k; obtain ⟨ih0, ih1, ih2, ih3, ih4, ih5⟩ := land_Validate.mono_l k
  unfold land_Validate.f
  repeat' first
      | (with_reducible first | apply ih0 | apply ih1 | apply ih2 | apply ih3 | apply ih4 | apply ih5 | exact LeO.refl _ | exact LeO.none _ | refine LeO.ite ?_ ?_ | refine LeO.bind ?_ (fun _ => ?_))
set_option maxHeartbeats 8000000 in
set_option maxRecDepth 100000 in
theorem land_Validate.calls (k : Nat) (a0_0 : Int) (a0_1 : Int) (A0_2 : Option Addr) (c0_2 : Nat) (l0_2 : List Int) (r : Int) (w : World) (hr0_2 : Kd.C (Kd.int .i64) w A0_2 l0_2.length l0_2) (hc0_2 : l0_2.length ≤ c0_2) (h : land_Validate.f k a0_0 a0_1 l0_2 = some r) :
    Calls Tryz.prog 8 #[.agg #[.int .i64 a0_0, .int .i64 a0_1, .slice A0_2 l0_2.length c0_2]] w fun e w' => e = .returned (.int .i64 r) ∧ Below w.heap.size w w' := by
 have hu26 := Tryz.underlying26; have HR0_2 := Aside0.mk hr0_2; have HC0_2 := Aside0.mk hc0_2; clear hr0_2 hc0_2; have HB := Aside0.mk (Below.refl w.heap.size w); have H : (if a0_0 < 4 then (land_Validate.j0 k true a0_0 a0_1 l0_2) else (if a0_0 > 32 then (land_Validate.j0 k true a0_0 a0_1 l0_2) else (if a0_1 < 4 then (land_Validate.j0 k true a0_0 a0_1 l0_2) else (if a0_1 > 32 then (land_Validate.j0 k true a0_0 a0_1 l0_2) else (land_Validate.j0 k ((l0_2.length : Int) != (wrap64 ((wrap64 (a0_0 + 1)) * (wrap64 (a0_1 + 1))))) a0_0 a0_1 l0_2))))) = some r := h; clear h; have HC2 := Aside0.mk H; clear H
 go_enter Tryz.func8, Tryz.ntmps8
 go_upto_region 1 with (first | ((with_reducible refine gate_dst (N := 1) rfl ?_); (try (refine gate_guard (by rfl) ?_; dsimp only)); refine bx_ (N := 1) (cs := #[.int .i64 a0_0, .int .i64 a0_1, .slice A0_2 l0_2.length c0_2]) (t := 26) ?_; intro gb163 hg w3 hbox hb; have BK163 := Aside0.mk (hbox); have GW163 := Aside0.mk ((dS_ hg (dL_ HB) : w.heap.size ≤ gb163)); have GE163 := GW163; replace HB := Aside0.mk (below_step (dL_ HB) hb); clear hb hbox hg))
 (try simp only [Act.put, List.setIfInBounds_toArray, List.set_cons_zero, List.set_cons_succ])
 go_cut [38] (fun v38 wc => ∃ (kq : Nat) (x38_1 : Bool), v38 = .bool x38_1 ∧ Aside0 (land_Validate.j0 kq x38_1 a0_0 a0_1 l0_2 = some r) ∧ Aside0 (kq ≤ k) ∧ Aside0 (wc.heap[gb163]? = some (.cells #[.int .i64 a0_0, .int .i64 a0_1, (.slice A0_2 l0_2.length c0_2)] 26 (0, 0))) ∧ Aside0 (Below w.heap.size w wc))
 case first =>
  have H := HC2.out; clear HC2
  by_cases c4 : a0_0 < 4
  ·rw [if_pos c4] at H; have c4b0 : decide (a0_0 < 4) = true := decide_eq_true c4; clear c4
   (first | rw [c4b0] | (simp only [i64_w, i32_w]; rw [c4b0]) | skip)
   have H' := Aside0.mk H; clear H; obtain ⟨z5a, z5b, z5c, y5a, y5b, y5c⟩ := cs3_ BK163.out; go_wp2
   go_meet
   case rel => exact ⟨_, (true), tS_, H', ⟨by first | omega | exact Nat.le_refl _⟩, ⟨dB_ BK163⟩, ⟨dL1_ HB GE163⟩⟩
  ·rw [if_neg c4] at H; have c4b0 : decide (a0_0 < 4) = false := decide_eq_false c4; clear c4
   (first | rw [c4b0] | (simp only [i64_w, i32_w]; rw [c4b0]) | skip)
   by_cases c6 : a0_0 > 32
   ·rw [if_pos c6] at H; have c6b0 : decide (32 < a0_0) = true := decide_eq_true c6; clear c6; have H' := Aside0.mk H; clear H; obtain ⟨z7a, z7b, z7c, y7a, y7b, y7c⟩ := cs3_ BK163.out; go_wp2
    go_meet
    case rel => exact ⟨_, (true), tS_, H', ⟨by first | omega | exact Nat.le_refl _⟩, ⟨dB_ BK163⟩, ⟨dL1_ HB GE163⟩⟩
   ·rw [if_neg c6] at H; have c6b0 : decide (32 < a0_0) = false := decide_eq_false c6; clear c6
    by_cases c8 : a0_1 < 4
    ·rw [if_pos c8] at H; have c8b0 : decide (a0_1 < 4) = true := decide_eq_true c8; clear c8; have H' := Aside0.mk H; clear H; obtain ⟨z9a, z9b, z9c, y9a, y9b, y9c⟩ := cs3_ BK163.out; go_wp2
     go_meet
     case rel => exact ⟨_, (true), tS_, H', ⟨by first | omega | exact Nat.le_refl _⟩, ⟨dB_ BK163⟩, ⟨dL1_ HB GE163⟩⟩
    ·rw [if_neg c8] at H; have c8b0 : decide (a0_1 < 4) = false := decide_eq_false c8; clear c8
     by_cases c10 : a0_1 > 32
     ·rw [if_pos c10] at H; have c10b0 : decide (32 < a0_1) = true := decide_eq_true c10; clear c10; have H' := Aside0.mk H; clear H; obtain ⟨z11a, z11b, z11c, y11a, y11b, y11c⟩ := cs3_ BK163.out; go_wp2
      go_meet
      case rel => exact ⟨_, (true), tS_, H', ⟨by first | omega | exact Nat.le_refl _⟩, ⟨dB_ BK163⟩, ⟨dL1_ HB GE163⟩⟩
     ·rw [if_neg c10] at H; have c10b0 : decide (32 < a0_1) = false := decide_eq_false c10; clear c10; have H' := Aside0.mk H; clear H; obtain ⟨z12a, z12b, z12c, y12a, y12b, y12c⟩ := cs3_ BK163.out; go_wp2
      go_meet
      case rel => exact ⟨_, (((l0_2.length : Int) != (wrap64 ((wrap64 (a0_0 + 1)) * (wrap64 (a0_1 + 1)))))), tS_, H', ⟨by first | omega | exact Nat.le_refl _⟩, ⟨dB_ BK163⟩, ⟨dL1_ HB GE163⟩⟩
 case rest =>
  clear HC2; (try clear c4); (try clear c6); (try clear c8); (try clear c10); obtain ⟨kq, x38_1, rfl, HA, HJ1, BK163, HB⟩ := hcut
  cases kq with
  | zero => exact absurd HA.out (by simp [land_Validate.j0])
  | succ kj1 =>
   have H := HA.out; clear HA; simp only [land_Validate.j0] at H
   by_cases c13 : x38_1 = true
   ·subst c13; rw [if_pos rfl] at H; obtain rfl := Option.some.inj H; go_wp2
    go_ret
    exact ⟨tE_, dL1_ HB GE163⟩
   ·replace c13 := Bool.eq_false_iff.mpr c13; subst c13; rw [if_neg (show ¬ (false = true) by decide)] at H; have H' := Aside0.mk H; clear H; obtain ⟨z14a, z14b, z14c, y14a, y14b, y14c⟩ := cs3_ BK163.out; go_wp2
    go_loopg [42] kj1 (fun kq v42 w' => ∃ (x42_2 : Int), v42 = .int .i64 x42_2 ∧ Aside0 (land_Validate.l0 kq l0_2 (l0_2.length : Int) x42_2 a0_0 a0_1 l0_2 = some r) ∧ Aside0 (kq ≤ kj1) ∧ Aside0 (w'.heap[gb163]? = some (.cells #[.int .i64 a0_0, .int .i64 a0_1, (.slice A0_2 l0_2.length c0_2)] 26 (0, 0))) ∧ Aside0 (Below w.heap.size w w'))
    case atStart => exact ⟨(0), tS_, H', ⟨Nat.le_refl _⟩, ⟨dB_ BK163⟩, ⟨dL1_ HB GE163⟩⟩
    case round =>
     clear H'; (try clear c4); (try clear c6); (try clear c8); (try clear c10); (try clear c13); (try clear z14a z14b z14c y14a y14b y14c); obtain ⟨x42_2, rfl, HA, HK2, BK163, HB⟩ := hrel
     cases gk with
     | zero => exact absurd HA.out (by simp [land_Validate.l0])
     | succ k2 =>
      have H := HA.out; clear HA; simp only [land_Validate.l0] at H
      by_cases c15 : x42_2 < (l0_2.length : Int)
      ·rw [if_pos c15] at H; have c15b0 : decide (x42_2 < (l0_2.length : Int)) = true := decide_eq_true c15; clear c15
       by_cases c16 : 0 ≤ x42_2
       ·rw [if_pos c16] at H; have c16b0 : decide (0 ≤ x42_2) = true := decide_eq_true c16; clear c16
        by_cases c17 : x42_2 < (l0_2.length : Int)
        ·rw [if_pos c17] at H; have c17b0 : decide (x42_2 < (l0_2.length : Int)) = true := decide_eq_true c17; clear c17; have HC18 := Aside0.mk H; clear H; have p164 : 0 ≤ (x42_2 : Int) := of_decide_eq_true tW_; have q164 : x42_2 < (l0_2.length : Int) := of_decide_eq_true tW_; obtain ⟨ad164, e164, hx164_0⟩ := Kd.at_int HR0_2.out x42_2 p164 q164; cases e164; replace hx164_0 := bc_ HB hx164_0; replace p164 := eq_true p164; replace q164 := eq_true q164
         go_upto_region 6 with (fail)
         go_cut [51] (fun v51 wc => ∃ (kq : Nat) (x51_17 : Bool), v51 = .bool x51_17 ∧ Aside0 (land_Validate.j2 kq l0_2 (l0_2.length : Int) x42_2 x51_17 a0_0 a0_1 l0_2 = some r) ∧ Aside0 (kq ≤ k2) ∧ Aside0 (wc.heap[gb163]? = some (.cells #[.int .i64 a0_0, .int .i64 a0_1, (.slice (some ad164) l0_2.length c0_2)] 26 (0, 0))) ∧ Aside0 (Below w.heap.size w wc))
         case first =>
          have H := HC18.out; clear HC18
          by_cases c19 : (rd l0_2 x42_2) < 0
          ·rw [if_pos c19] at H; have c19b0 : decide ((rd l0_2 x42_2) < 0) = true := decide_eq_true c19; clear c19
           (first | rw [c19b0] | (simp only [i64_w, i32_w]; rw [c19b0]) | skip)
           have H' := Aside0.mk H; clear H; go_wp2
           go_meet
           case rel => exact ⟨_, (true), tS_, H', ⟨by have := HJ1.out; have := HK2.out; first | omega | exact Nat.le_refl _⟩, ⟨dB_ BK163⟩, ⟨dL1_ HB GE163⟩⟩
          ·rw [if_neg c19] at H; have c19b0 : decide ((rd l0_2 x42_2) < 0) = false := decide_eq_false c19; clear c19
           (first | rw [c19b0] | (simp only [i64_w, i32_w]; rw [c19b0]) | skip)
           have H' := Aside0.mk H; clear H; go_wp2
           go_meet
           case rel => exact ⟨_, (decide ((rd l0_2 x42_2) > 15)), tS_, H', ⟨by have := HJ1.out; have := HK2.out; first | omega | exact Nat.le_refl _⟩, ⟨dB_ BK163⟩, ⟨dL1_ HB GE163⟩⟩
         case rest =>
          clear HC18; (try clear c4); (try clear c6); (try clear c8); (try clear c10); (try clear c13); (try clear c15); (try clear c15b0); (try clear c16); (try clear c16b0); (try clear c17); (try clear c17b0); (try clear c19); (try clear z14a z14b z14c y14a y14b y14c); (try clear hx164_0); (try clear p164); (try clear q164); obtain ⟨kq, x51_17, rfl, HA, HJ17, BK163, HB⟩ := hcut
          cases kq with
          | zero => exact absurd HA.out (by simp [land_Validate.j2])
          | succ kj17 =>
           have H := HA.out; clear HA; simp only [land_Validate.j2] at H
           by_cases c20 : x51_17 = true
           ·subst c20; rw [if_pos rfl] at H; obtain rfl := Option.some.inj H; go_wp2
            go_ret
            exact ⟨tE_, dL1_ HB GE163⟩
           ·replace c20 := Bool.eq_false_iff.mpr c20; subst c20; rw [if_neg (show ¬ (false = true) by decide)] at H; have H' := Aside0.mk H; clear H; go_wp2
            go_roundg kj17
            case measure => have := HJ1.out; have := HK2.out; have := HJ17.out; omega
            case rel => exact ⟨(wrap64 (x42_2 + 1)), tS_, H', ⟨by have := HJ1.out; have := HK2.out; have := HJ17.out; omega⟩, ⟨dB_ BK163⟩, ⟨dL1_ HB GE163⟩⟩
        ·rw [if_neg c17] at H; exact absurd H (by simp)
       ·rw [if_neg c16] at H; exact absurd H (by simp)
      ·rw [if_neg c15] at H; have c15b0 : decide (x42_2 < (l0_2.length : Int)) = false := decide_eq_false c15; clear c15; have H' := Aside0.mk H; clear H; go_wp2
       go_loopg [5] k2 (fun kq v5 w' => ∃ (x5_3 : Int), v5 = .int .i64 x5_3 ∧ Aside0 (land_Validate.l1 kq x5_3 a0_0 a0_1 l0_2 = some r) ∧ Aside0 (kq ≤ k2) ∧ Aside0 (w'.heap[gb163]? = some (.cells #[.int .i64 a0_0, .int .i64 a0_1, (.slice A0_2 l0_2.length c0_2)] 26 (0, 0))) ∧ Aside0 (Below w.heap.size w w'))
       case atStart => exact ⟨(0), tS_, H', ⟨Nat.le_refl _⟩, ⟨dB_ BK163⟩, ⟨dL1_ HB GE163⟩⟩
       case round =>
        clear H'; (try clear c4); (try clear c6); (try clear c8); (try clear c10); (try clear c13); (try clear c15); (try clear c15b0); (try clear c16); (try clear c17); (try clear c19); (try clear z14a z14b z14c y14a y14b y14c); obtain ⟨x5_3, rfl, HA, HK3, BK163, HB⟩ := hrel
        cases gk with
        | zero => exact absurd HA.out (by simp [land_Validate.l1])
        | succ k3 =>
         have H := HA.out; clear HA; simp only [land_Validate.l1] at H
         by_cases c21 : x5_3 ≤ a0_1
         ·rw [if_pos c21] at H; have c21b0 : decide (x5_3 ≤ a0_1) = true := decide_eq_true c21; clear c21; have H' := Aside0.mk H; clear H; obtain ⟨z22a, z22b, z22c, y22a, y22b, y22c⟩ := cs3_ BK163.out; go_wp2
          go_loopg [6] k3 (fun kq v6 w' => ∃ (x6_4 : Int), v6 = .int .i64 x6_4 ∧ Aside0 (land_Validate.l2 kq x5_3 x6_4 a0_0 a0_1 l0_2 = some r) ∧ Aside0 (kq ≤ k3) ∧ Aside0 (w'.heap[gb163]? = some (.cells #[.int .i64 a0_0, .int .i64 a0_1, (.slice A0_2 l0_2.length c0_2)] 26 (0, 0))) ∧ Aside0 (Below w.heap.size w w'))
          case atStart => exact ⟨(0), tS_, H', ⟨Nat.le_refl _⟩, ⟨dB_ BK163⟩, ⟨dL1_ HB GE163⟩⟩
          case round =>
           clear H'; (try clear c4); (try clear c6); (try clear c8); (try clear c10); (try clear c13); (try clear c15); (try clear c15b0); (try clear c16); (try clear c17); (try clear c19); (try clear c21); (try clear c21b0); (try clear z14a z14b z14c y14a y14b y14c); (try clear z22a z22b z22c y22a y22b y22c); obtain ⟨x6_4, rfl, HA, HK4, BK163, HB⟩ := hrel
           cases gk with
           | zero => exact absurd HA.out (by simp [land_Validate.l2])
           | succ k4 =>
            have H := HA.out; clear HA; simp only [land_Validate.l2] at H
            by_cases c23 : x6_4 ≤ a0_0
            ·rw [if_pos c23] at H; have c23b0 : decide (x6_4 ≤ a0_0) = true := decide_eq_true c23; clear c23; obtain ⟨ji24, hji24⟩ : ∃ j_ : Int, (wrap64 ((wrap64 (x5_3 * (wrap64 (a0_0 + 1)))) + x6_4)) = j_ := ⟨_, rfl⟩; replace H : (if 0 ≤ (ji24) then (if (ji24) < (l0_2.length : Int) then (if x6_4 < a0_0 then (if 0 ≤ (wrap64 ((ji24) + 1)) then (if (wrap64 ((ji24) + 1)) < (l0_2.length : Int) then ((land_apart.f (rd l0_2 (ji24)) (rd l0_2 (wrap64 ((ji24) + 1)))).bind fun t167 => (if t167 = true then (land_Validate.j5 k4 x5_3 x6_4 true a0_0 a0_1 l0_2) else (if x5_3 < a0_1 then (if 0 ≤ (wrap64 ((wrap64 ((wrap64 (x5_3 + 1)) * (wrap64 (a0_0 + 1)))) + x6_4)) then (if (wrap64 ((wrap64 ((wrap64 (x5_3 + 1)) * (wrap64 (a0_0 + 1)))) + x6_4)) < (l0_2.length : Int) then ((land_apart.f (rd l0_2 (ji24)) (rd l0_2 (wrap64 ((wrap64 ((wrap64 (x5_3 + 1)) * (wrap64 (a0_0 + 1)))) + x6_4)))).bind fun t169 => (land_Validate.j5 k4 x5_3 x6_4 t169 a0_0 a0_1 l0_2)) else (none)) else (none)) else (land_Validate.j5 k4 x5_3 x6_4 false a0_0 a0_1 l0_2)))) else (none)) else (none)) else (if x5_3 < a0_1 then (if 0 ≤ (wrap64 ((wrap64 ((wrap64 (x5_3 + 1)) * (wrap64 (a0_0 + 1)))) + x6_4)) then (if (wrap64 ((wrap64 ((wrap64 (x5_3 + 1)) * (wrap64 (a0_0 + 1)))) + x6_4)) < (l0_2.length : Int) then ((land_apart.f (rd l0_2 (ji24)) (rd l0_2 (wrap64 ((wrap64 ((wrap64 (x5_3 + 1)) * (wrap64 (a0_0 + 1)))) + x6_4)))).bind fun t171 => (land_Validate.j5 k4 x5_3 x6_4 t171 a0_0 a0_1 l0_2)) else (none)) else (none)) else (land_Validate.j5 k4 x5_3 x6_4 false a0_0 a0_1 l0_2))) else (none)) else (none)) = some r := by first | (rw [hji24] at H; exact H) | (simp only [hji24] at H ⊢; exact H)
             have hji24w : (IntKind.i64.wrap ((wrap64 (x5_3 * (wrap64 (a0_0 + 1)))) + x6_4)) = ji24 := (i64_w _).trans hji24
             by_cases c25 : 0 ≤ (ji24)
             ·rw [if_pos c25] at H; have c25b0 : decide (0 ≤ (ji24)) = true := decide_eq_true c25; clear c25
              by_cases c26 : (ji24) < (l0_2.length : Int)
              ·rw [if_pos c26] at H; have c26b0 : decide ((ji24) < (l0_2.length : Int)) = true := decide_eq_true c26; clear c26; have HC27 := Aside0.mk H; clear H; obtain ⟨z28a, z28b, z28c, y28a, y28b, y28c⟩ := cs3_ BK163.out; have p165 : 0 ≤ ((ji24) : Int) := of_decide_eq_true tW_; have q165 : (ji24) < (l0_2.length : Int) := of_decide_eq_true tW_; obtain ⟨ad165, e165, hx165_0⟩ := Kd.at_int HR0_2.out (ji24) p165 q165; cases e165; replace hx165_0 := bc_ HB hx165_0; replace p165 := eq_true p165; replace q165 := eq_true q165
               go_upto_region 16 with (fail)
               go_cut [117] (fun v117 wc => ∃ (kq : Nat) (x117_26 : Bool), v117 = .bool x117_26 ∧ Aside0 (land_Validate.j5 kq x5_3 x6_4 x117_26 a0_0 a0_1 l0_2 = some r) ∧ Aside0 (kq ≤ k4) ∧ Aside0 (wc.heap[gb163]? = some (.cells #[.int .i64 a0_0, .int .i64 a0_1, (.slice (some ad165) l0_2.length c0_2)] 26 (0, 0))) ∧ Aside0 (Below w.heap.size w wc))
               case first =>
                have H := HC27.out; clear HC27
                by_cases c29 : x6_4 < a0_0
                ·rw [if_pos c29] at H; have c29b0 : decide (x6_4 < a0_0) = true := decide_eq_true c29; clear c29
                 (first | rw [c29b0] | (simp only [i64_w, i32_w]; rw [c29b0]) | skip)
                 obtain ⟨ji30, hji30⟩ : ∃ j_ : Int, (wrap64 ((ji24) + 1)) = j_ := ⟨_, rfl⟩; replace H : (if 0 ≤ (ji30) then (if (ji30) < (l0_2.length : Int) then ((land_apart.f (rd l0_2 (ji24)) (rd l0_2 (ji30))).bind fun t167 => (if t167 = true then (land_Validate.j5 k4 x5_3 x6_4 true a0_0 a0_1 l0_2) else (if x5_3 < a0_1 then (if 0 ≤ (wrap64 ((wrap64 ((wrap64 (x5_3 + 1)) * (wrap64 (a0_0 + 1)))) + x6_4)) then (if (wrap64 ((wrap64 ((wrap64 (x5_3 + 1)) * (wrap64 (a0_0 + 1)))) + x6_4)) < (l0_2.length : Int) then ((land_apart.f (rd l0_2 (ji24)) (rd l0_2 (wrap64 ((wrap64 ((wrap64 (x5_3 + 1)) * (wrap64 (a0_0 + 1)))) + x6_4)))).bind fun t169 => (land_Validate.j5 k4 x5_3 x6_4 t169 a0_0 a0_1 l0_2)) else (none)) else (none)) else (land_Validate.j5 k4 x5_3 x6_4 false a0_0 a0_1 l0_2)))) else (none)) else (none)) = some r := by first | (rw [hji30] at H; exact H) | (simp only [hji30] at H ⊢; exact H)
                 have hji30w : (IntKind.i64.wrap ((ji24) + 1)) = ji30 := (i64_w _).trans hji30
                 by_cases c31 : 0 ≤ (ji30)
                 ·rw [if_pos c31] at H; have c31b0 : decide (0 ≤ (ji30)) = true := decide_eq_true c31; clear c31
                  by_cases c32 : (ji30) < (l0_2.length : Int)
                  ·rw [if_pos c32] at H; have c32b0 : decide ((ji30) < (l0_2.length : Int)) = true := decide_eq_true c32; clear c32; replace H := Option.bind_eq_some_iff.mp H; obtain ⟨t167, A330, H⟩ := H; have A33 := Aside0.mk A330; clear A330
                   by_cases c34 : t167 = true
                   ·subst c34; rw [if_pos rfl] at H; have H' := Aside0.mk H; clear H; obtain ⟨z35a, z35b, z35c, y35a, y35b, y35c⟩ := cs3_ BK163.out; have p166 : 0 ≤ ((ji30) : Int) := of_decide_eq_true tW_; have q166 : (ji30) < (l0_2.length : Int) := of_decide_eq_true tW_; obtain ⟨ad166, e166, hx166_0⟩ := Kd.at_int HR0_2.out (ji30) p166 q166; obtain rfl : ad165 = ad166 := (by injection e166); replace hx166_0 := bc_ HB hx166_0; replace p166 := eq_true p166; replace q166 := eq_true q166
                    go_wp2_with (first | (go_at_call 26; (with_reducible refine (land_apart.calls (rd l0_2 (ji24)) (rd l0_2 (ji30)) true _ A33.out).mono ?_); rintro e w' ⟨rfl, ⟨nd, rfl⟩⟩))
                    go_meet
                    case rel => exact ⟨_, (true), tS_, H', ⟨by have := HJ1.out; have := HK2.out; have := HK3.out; have := HK4.out; first | omega | exact Nat.le_refl _⟩, ⟨dB_ BK163⟩, ⟨dL1_ HB GE163⟩⟩
                   ·replace c34 := Bool.eq_false_iff.mpr c34; subst c34; rw [if_neg (show ¬ (false = true) by decide)] at H
                    by_cases c36 : x5_3 < a0_1
                    ·rw [if_pos c36] at H; have c36b0 : decide (x5_3 < a0_1) = true := decide_eq_true c36; clear c36; obtain ⟨ji37, hji37⟩ : ∃ j_ : Int, (wrap64 ((wrap64 ((wrap64 (x5_3 + 1)) * (wrap64 (a0_0 + 1)))) + x6_4)) = j_ := ⟨_, rfl⟩; replace H : (if 0 ≤ (ji37) then (if (ji37) < (l0_2.length : Int) then ((land_apart.f (rd l0_2 (ji24)) (rd l0_2 (ji37))).bind fun t169 => (land_Validate.j5 k4 x5_3 x6_4 t169 a0_0 a0_1 l0_2)) else (none)) else (none)) = some r := by first | (rw [hji37] at H; exact H) | (simp only [hji37] at H ⊢; exact H)
                     (try rw [hji37] at A33); have hji37w : (IntKind.i64.wrap ((wrap64 ((wrap64 (x5_3 + 1)) * (wrap64 (a0_0 + 1)))) + x6_4)) = ji37 := (i64_w _).trans hji37
                     by_cases c38 : 0 ≤ (ji37)
                     ·rw [if_pos c38] at H; have c38b0 : decide (0 ≤ (ji37)) = true := decide_eq_true c38; clear c38
                      by_cases c39 : (ji37) < (l0_2.length : Int)
                      ·rw [if_pos c39] at H; have c39b0 : decide ((ji37) < (l0_2.length : Int)) = true := decide_eq_true c39; clear c39; replace H := Option.bind_eq_some_iff.mp H; obtain ⟨t169, A400, H⟩ := H; have A40 := Aside0.mk A400; clear A400; have H' := Aside0.mk H; clear H; obtain ⟨z41a, z41b, z41c, y41a, y41b, y41c⟩ := cs3_ BK163.out; have p166 : 0 ≤ ((ji30) : Int) := of_decide_eq_true tW_; have q166 : (ji30) < (l0_2.length : Int) := of_decide_eq_true tW_; obtain ⟨ad166, e166, hx166_0⟩ := Kd.at_int HR0_2.out (ji30) p166 q166; obtain rfl : ad165 = ad166 := (by injection e166); replace hx166_0 := bc_ HB hx166_0; replace p166 := eq_true p166; replace q166 := eq_true q166
                       go_wp2_with (first | (go_at_call 26; (with_reducible refine (land_apart.calls (rd l0_2 (ji24)) (rd l0_2 (ji30)) false _ A33.out).mono ?_); rintro e w' ⟨rfl, ⟨nd, rfl⟩⟩; have p168 : 0 ≤ ((ji37) : Int) := of_decide_eq_true tW_; have q168 : (ji37) < (l0_2.length : Int) := of_decide_eq_true tW_; obtain ⟨ad168, e168, hx168_0⟩ := Kd.at_int HR0_2.out (ji37) p168 q168; obtain rfl : ad165 = ad168 := (by injection e168); replace hx168_0 := bc_ HB hx168_0; replace p168 := eq_true p168; replace q168 := eq_true q168) | (go_at_call 26; (with_reducible refine (land_apart.calls (rd l0_2 (ji24)) (rd l0_2 (ji37)) t169 _ A40.out).mono ?_); rintro e w' ⟨rfl, ⟨nd, rfl⟩⟩))
                       go_meet
                       case rel => exact ⟨_, (t169), tS_, H', ⟨by have := HJ1.out; have := HK2.out; have := HK3.out; have := HK4.out; first | omega | exact Nat.le_refl _⟩, ⟨dB_ BK163⟩, ⟨dL1_ HB GE163⟩⟩
                      ·rw [if_neg c39] at H; exact absurd H (by simp)
                     ·rw [if_neg c38] at H; exact absurd H (by simp)
                    ·rw [if_neg c36] at H; have c36b0 : decide (x5_3 < a0_1) = false := decide_eq_false c36; clear c36; have H' := Aside0.mk H; clear H; obtain ⟨z42a, z42b, z42c, y42a, y42b, y42c⟩ := cs3_ BK163.out; have p166 : 0 ≤ ((ji30) : Int) := of_decide_eq_true tW_; have q166 : (ji30) < (l0_2.length : Int) := of_decide_eq_true tW_; obtain ⟨ad166, e166, hx166_0⟩ := Kd.at_int HR0_2.out (ji30) p166 q166; obtain rfl : ad165 = ad166 := (by injection e166); replace hx166_0 := bc_ HB hx166_0; replace p166 := eq_true p166; replace q166 := eq_true q166
                     go_wp2_with (first | (go_at_call 26; (with_reducible refine (land_apart.calls (rd l0_2 (ji24)) (rd l0_2 (ji30)) false _ A33.out).mono ?_); rintro e w' ⟨rfl, ⟨nd, rfl⟩⟩))
                     go_meet
                     case rel => exact ⟨_, (false), tS_, H', ⟨by have := HJ1.out; have := HK2.out; have := HK3.out; have := HK4.out; first | omega | exact Nat.le_refl _⟩, ⟨dB_ BK163⟩, ⟨dL1_ HB GE163⟩⟩
                  ·rw [if_neg c32] at H; exact absurd H (by simp)
                 ·rw [if_neg c31] at H; exact absurd H (by simp)
                ·rw [if_neg c29] at H; have c29b0 : decide (x6_4 < a0_0) = false := decide_eq_false c29; clear c29
                 (first | rw [c29b0] | (simp only [i64_w, i32_w]; rw [c29b0]) | skip)
                 by_cases c43 : x5_3 < a0_1
                 ·rw [if_pos c43] at H; have c43b0 : decide (x5_3 < a0_1) = true := decide_eq_true c43; clear c43; obtain ⟨ji44, hji44⟩ : ∃ j_ : Int, (wrap64 ((wrap64 ((wrap64 (x5_3 + 1)) * (wrap64 (a0_0 + 1)))) + x6_4)) = j_ := ⟨_, rfl⟩; replace H : (if 0 ≤ (ji44) then (if (ji44) < (l0_2.length : Int) then ((land_apart.f (rd l0_2 (ji24)) (rd l0_2 (ji44))).bind fun t171 => (land_Validate.j5 k4 x5_3 x6_4 t171 a0_0 a0_1 l0_2)) else (none)) else (none)) = some r := by first | (rw [hji44] at H; exact H) | (simp only [hji44] at H ⊢; exact H)
                  have hji44w : (IntKind.i64.wrap ((wrap64 ((wrap64 (x5_3 + 1)) * (wrap64 (a0_0 + 1)))) + x6_4)) = ji44 := (i64_w _).trans hji44
                  by_cases c45 : 0 ≤ (ji44)
                  ·rw [if_pos c45] at H; have c45b0 : decide (0 ≤ (ji44)) = true := decide_eq_true c45; clear c45
                   by_cases c46 : (ji44) < (l0_2.length : Int)
                   ·rw [if_pos c46] at H; have c46b0 : decide ((ji44) < (l0_2.length : Int)) = true := decide_eq_true c46; clear c46; replace H := Option.bind_eq_some_iff.mp H; obtain ⟨t171, A470, H⟩ := H; have A47 := Aside0.mk A470; clear A470; have H' := Aside0.mk H; clear H; obtain ⟨z48a, z48b, z48c, y48a, y48b, y48c⟩ := cs3_ BK163.out; have p170 : 0 ≤ ((ji44) : Int) := of_decide_eq_true tW_; have q170 : (ji44) < (l0_2.length : Int) := of_decide_eq_true tW_; obtain ⟨ad170, e170, hx170_0⟩ := Kd.at_int HR0_2.out (ji44) p170 q170; obtain rfl : ad165 = ad170 := (by injection e170); replace hx170_0 := bc_ HB hx170_0; replace p170 := eq_true p170; replace q170 := eq_true q170
                    go_wp2_with (first | (go_at_call 26; (with_reducible refine (land_apart.calls (rd l0_2 (ji24)) (rd l0_2 (ji44)) t171 _ A47.out).mono ?_); rintro e w' ⟨rfl, ⟨nd, rfl⟩⟩))
                    go_meet
                    case rel => exact ⟨_, (t171), tS_, H', ⟨by have := HJ1.out; have := HK2.out; have := HK3.out; have := HK4.out; first | omega | exact Nat.le_refl _⟩, ⟨dB_ BK163⟩, ⟨dL1_ HB GE163⟩⟩
                   ·rw [if_neg c46] at H; exact absurd H (by simp)
                  ·rw [if_neg c45] at H; exact absurd H (by simp)
                 ·rw [if_neg c43] at H; have c43b0 : decide (x5_3 < a0_1) = false := decide_eq_false c43; clear c43; have H' := Aside0.mk H; clear H; obtain ⟨z49a, z49b, z49c, y49a, y49b, y49c⟩ := cs3_ BK163.out; go_wp2
                  go_meet
                  case rel => exact ⟨_, (false), tS_, H', ⟨by have := HJ1.out; have := HK2.out; have := HK3.out; have := HK4.out; first | omega | exact Nat.le_refl _⟩, ⟨dB_ BK163⟩, ⟨dL1_ HB GE163⟩⟩
               case rest =>
                clear HC27; (try clear c4); (try clear c6); (try clear c8); (try clear c10); (try clear c13); (try clear c15); (try clear c15b0); (try clear c16); (try clear c17); (try clear c19); (try clear c21); (try clear c21b0); (try clear c23); (try clear c23b0); (try clear c25); (try clear c25b0); (try clear c26); (try clear c26b0); (try clear c29); (try clear c31); (try clear c32); (try clear c36); (try clear c38); (try clear c39); (try clear c43); (try clear c45); (try clear c46); (try clear z14a z14b z14c y14a y14b y14c); (try clear z22a z22b z22c y22a y22b y22c); (try clear z28a z28b z28c y28a y28b y28c); (try clear hx165_0); (try clear p165); (try clear q165); obtain ⟨kq, x117_26, rfl, HA, HJ26, BK163, HB⟩ := hcut
                cases kq with
                | zero => exact absurd HA.out (by simp [land_Validate.j5])
                | succ kj26 =>
                 have H := HA.out; clear HA; simp only [land_Validate.j5] at H
                 by_cases c50 : x117_26 = true
                 ·subst c50; rw [if_pos rfl] at H; obtain rfl := Option.some.inj H; go_wp2
                  go_ret
                  exact ⟨by first | rfl | (simp [errW_none, errW_some] <;> rfl) | (simp only [← hji24]; first | rfl | (simp [errW_none, errW_some] <;> rfl)) | (simp [*, errW_none, errW_some] <;> rfl), dL1_ HB GE163⟩
                 ·replace c50 := Bool.eq_false_iff.mpr c50; subst c50; rw [if_neg (show ¬ (false = true) by decide)] at H; have H' := Aside0.mk H; clear H; go_wp2
                  go_roundg kj26
                  case measure => have := HJ1.out; have := HK2.out; have := HK3.out; have := HK4.out; have := HJ26.out; omega
                  case rel => exact ⟨(wrap64 (x6_4 + 1)), tS_, H', ⟨by have := HJ1.out; have := HK2.out; have := HK3.out; have := HK4.out; have := HJ26.out; omega⟩, ⟨dB_ BK163⟩, ⟨dL1_ HB GE163⟩⟩
              ·rw [if_neg c26] at H; exact absurd H (by simp)
             ·rw [if_neg c25] at H; exact absurd H (by simp)
            ·rw [if_neg c23] at H; have c23b0 : decide (x6_4 ≤ a0_0) = false := decide_eq_false c23; clear c23; have H' := Aside0.mk H; clear H; obtain ⟨z51a, z51b, z51c, y51a, y51b, y51c⟩ := cs3_ BK163.out; go_wp2
             go_roundg k4
             case measure => have := HJ1.out; have := HK2.out; have := HK3.out; have := HK4.out; omega
             case rel => exact ⟨(wrap64 (x5_3 + 1)), tS_, H', ⟨by have := HJ1.out; have := HK2.out; have := HK3.out; have := HK4.out; omega⟩, ⟨dB_ BK163⟩, ⟨dL1_ HB GE163⟩⟩
         ·rw [if_neg c21] at H; have c21b0 : decide (x5_3 ≤ a0_1) = false := decide_eq_false c21; clear c21; obtain rfl := Option.some.inj H; obtain ⟨z52a, z52b, z52c, y52a, y52b, y52c⟩ := cs3_ BK163.out; go_wp2
          go_ret
          exact ⟨tE_, dL1_ HB GE163⟩

end Go.Proofs.YtldbkigenaakkaaGreatDoor.Q
namespace Go.Proofs.YtldbkigenaakkaaGreatDoor.Q
open Go.RowKit Go.Proofs.YtldbkigenaakkaaGreatDoorPrs Go.Proofs.YtldbkigenaakkaaGreatDoorOwn Go.Proofs.YtldbkigenaakkaaGreatDoorW.PrintWords Go.Proofs.YtldbkigenaakkaaGreatDoorW.PrintLast Go.Proofs.YtldbkigenaakkaaGreatDoorW.PrintMore
attribute [local go_sem] max2_int min2_int max_two min_two max_three min_three max_four min_four   -- for this text's walks alone
set_option linter.unusedVariables false
set_option linter.unusedSimpArgs false

/-! ### land_far: function 23 -/
def land_far.f (a0 : Int) (a1 : Int) (a2 : Int) (a3 : Int) : Option (Int) := some (wrap64 ((mx (wrap64 (a0 - a2)) (wrap64 (a2 - a0))) + (mx (wrap64 (a1 - a3)) (wrap64 (a3 - a1)))))
set_option maxHeartbeats 8000000 in
set_option maxRecDepth 100000 in
theorem land_far.calls (a0 : Int) (a1 : Int) (a2 : Int) (a3 : Int) (r : Int) (w : World) (h : land_far.f a0 a1 a2 a3 = some r) :
    Calls Tryz.prog 23 #[.int .i64 a0, .int .i64 a1, .int .i64 a2, .int .i64 a3] w fun e w' => e = .returned (.int .i64 r) ∧ Below w.heap.size w w' := by
 have HB := Aside0.mk (Below.refl w.heap.size w); have H : (some (wrap64 ((mx (wrap64 (a0 - a2)) (wrap64 (a2 - a0))) + (mx (wrap64 (a1 - a3)) (wrap64 (a3 - a1)))))) = some r := h; clear h; obtain ⟨ji5, hji5⟩ : ∃ j_ : Int, (mx (wrap64 (a0 - a2)) (wrap64 (a2 - a0))) = j_ := ⟨_, rfl⟩; replace H : (some (wrap64 ((ji5) + (mx (wrap64 (a1 - a3)) (wrap64 (a3 - a1)))))) = some r := by first | (rw [hji5] at H; exact H) | (simp only [hji5] at H ⊢; exact H)
 have hji5_ : (if (wrap64 (a0 - a2)) < (wrap64 (a2 - a0)) then (wrap64 (a2 - a0)) else (wrap64 (a0 - a2))) = ji5 := hji5; obtain ⟨ji6, hji6⟩ : ∃ j_ : Int, (mx (wrap64 (a1 - a3)) (wrap64 (a3 - a1))) = j_ := ⟨_, rfl⟩; replace H : (some (wrap64 ((ji5) + (ji6)))) = some r := by first | (rw [hji6] at H; exact H) | (simp only [hji6] at H ⊢; exact H)
 have hji6_ : (if (wrap64 (a1 - a3)) < (wrap64 (a3 - a1)) then (wrap64 (a3 - a1)) else (wrap64 (a1 - a3))) = ji6 := hji6; obtain rfl := Option.some.inj H
 go_enter Tryz.func23, Tryz.ntmps23
 go_wp2
 go_ret
 exact ⟨by first | rfl | (simp [errW_none, errW_some] <;> rfl) | (simp only [← hji5, ← hji6]; first | rfl | (simp [errW_none, errW_some] <;> rfl)) | (simp [*, errW_none, errW_some] <;> rfl), dL_ HB⟩

/-! ### land_isTile: function 24 -/
def land_isTile.f (a0_0 : Int) (a0_1 : Int) (l0_2 : List Int) (a1 : Int) : Option (Bool) := if a1 ≥ 0 then (some (decide (a1 < (wrap64 (a0_0 * a0_1))))) else (some false)
set_option maxHeartbeats 8000000 in
set_option maxRecDepth 100000 in
theorem land_isTile.calls (a0_0 : Int) (a0_1 : Int) (A0_2 : Option Addr) (c0_2 : Nat) (l0_2 : List Int) (a1 : Int) (r : Bool) (w : World) (hr0_2 : Kd.C (Kd.int .i64) w A0_2 l0_2.length l0_2) (hc0_2 : l0_2.length ≤ c0_2) (h : land_isTile.f a0_0 a0_1 l0_2 a1 = some r) :
    Calls Tryz.prog 24 #[.agg #[.int .i64 a0_0, .int .i64 a0_1, .slice A0_2 l0_2.length c0_2], .int .i64 a1] w fun e w' => e = .returned (.bool r) ∧ Below w.heap.size w w' := by
 have hu26 := Tryz.underlying26; have HR0_2 := Aside0.mk hr0_2; have HC0_2 := Aside0.mk hc0_2; clear hr0_2 hc0_2; have HB := Aside0.mk (Below.refl w.heap.size w); have H : (if a1 ≥ 0 then (some (decide (a1 < (wrap64 (a0_0 * a0_1))))) else (some false)) = some r := h; clear h
 by_cases c3 : a1 ≥ 0
 ·rw [if_pos c3] at H; have c3b0 : decide (0 ≤ a1) = true := decide_eq_true c3; clear c3; obtain rfl := Option.some.inj H
  go_enter Tryz.func24, Tryz.ntmps24
  go_wp2_with (first | ((with_reducible refine gate_dst (N := 2) rfl ?_); refine bx_ (N := 2) (cs := #[.int .i64 a0_0, .int .i64 a0_1, .slice A0_2 l0_2.length c0_2]) (t := 26) ?_; intro gb172 hg w4 hbox hb; have BK172 := Aside0.mk (hbox); have GW172 := Aside0.mk ((dS_ hg (dL_ HB) : w.heap.size ≤ gb172)); have GE172 := GW172; replace HB := Aside0.mk (below_step (dL_ HB) hb); clear hb hbox hg; obtain ⟨z5a, z5b, z5c, y5a, y5b, y5c⟩ := cs3_ BK172.out))
  go_ret
  exact ⟨tE_, dL1_ HB GE172⟩
 ·rw [if_neg c3] at H; have c3b0 : decide (0 ≤ a1) = false := decide_eq_false c3; clear c3; obtain rfl := Option.some.inj H
  go_enter Tryz.func24, Tryz.ntmps24
  go_wp2_with (first | ((with_reducible refine gate_dst (N := 2) rfl ?_); refine bx_ (N := 2) (cs := #[.int .i64 a0_0, .int .i64 a0_1, .slice A0_2 l0_2.length c0_2]) (t := 26) ?_; intro gb172 hg w6 hbox hb; have BK172 := Aside0.mk (hbox); have GW172 := Aside0.mk ((dS_ hg (dL_ HB) : w.heap.size ≤ gb172)); have GE172 := GW172; replace HB := Aside0.mk (below_step (dL_ HB) hb); clear hb hbox hg))
  go_ret
  exact ⟨tE_, dL1_ HB GE172⟩

end Go.Proofs.YtldbkigenaakkaaGreatDoor.Q
namespace Go.Proofs.YtldbkigenaakkaaGreatDoor.Q
open Go.RowKit Go.Proofs.YtldbkigenaakkaaGreatDoorPrs Go.Proofs.YtldbkigenaakkaaGreatDoorOwn Go.Proofs.YtldbkigenaakkaaGreatDoorW.PrintWords Go.Proofs.YtldbkigenaakkaaGreatDoorW.PrintLast Go.Proofs.YtldbkigenaakkaaGreatDoorW.PrintMore
open List renaming setIfInBounds_toArray → sI_, set_cons_zero → s0_, set_cons_succ → sS_
attribute [local go_sem] max2_int min2_int max_two min_two max_three min_three max_four min_four   -- for this text's walks alone
set_option linter.unusedVariables false
set_option linter.unusedSimpArgs false

/-! ### land_four: function 25 -/
def land_four.f (a0_0 : Int) (a0_1 : Int) (l0_2 : List Int) (a1 : Int) : Option (Int × Int × Int × Int) := if a0_0 = 0 then (none) else (if 0 ≤ (wrap64 ((wrap64 ((wrap64 (Int.tdiv a1 a0_0)) * (wrap64 (a0_0 + 1)))) + (Int.tmod a1 a0_0))) then (if (wrap64 ((wrap64 ((wrap64 (Int.tdiv a1 a0_0)) * (wrap64 (a0_0 + 1)))) + (Int.tmod a1 a0_0))) < (l0_2.length : Int) then (if 0 ≤ (wrap64 ((wrap64 ((wrap64 ((wrap64 (Int.tdiv a1 a0_0)) * (wrap64 (a0_0 + 1)))) + (Int.tmod a1 a0_0))) + 1)) then (if (wrap64 ((wrap64 ((wrap64 ((wrap64 (Int.tdiv a1 a0_0)) * (wrap64 (a0_0 + 1)))) + (Int.tmod a1 a0_0))) + 1)) < (l0_2.length : Int) then (if 0 ≤ (wrap64 ((wrap64 ((wrap64 ((wrap64 ((wrap64 (Int.tdiv a1 a0_0)) * (wrap64 (a0_0 + 1)))) + (Int.tmod a1 a0_0))) + a0_0)) + 2)) then (if (wrap64 ((wrap64 ((wrap64 ((wrap64 ((wrap64 (Int.tdiv a1 a0_0)) * (wrap64 (a0_0 + 1)))) + (Int.tmod a1 a0_0))) + a0_0)) + 2)) < (l0_2.length : Int) then (if 0 ≤ (wrap64 ((wrap64 ((wrap64 ((wrap64 ((wrap64 (Int.tdiv a1 a0_0)) * (wrap64 (a0_0 + 1)))) + (Int.tmod a1 a0_0))) + a0_0)) + 1)) then (if (wrap64 ((wrap64 ((wrap64 ((wrap64 ((wrap64 (Int.tdiv a1 a0_0)) * (wrap64 (a0_0 + 1)))) + (Int.tmod a1 a0_0))) + a0_0)) + 1)) < (l0_2.length : Int) then (some (rd l0_2 (wrap64 ((wrap64 ((wrap64 (Int.tdiv a1 a0_0)) * (wrap64 (a0_0 + 1)))) + (Int.tmod a1 a0_0))), rd l0_2 (wrap64 ((wrap64 ((wrap64 ((wrap64 (Int.tdiv a1 a0_0)) * (wrap64 (a0_0 + 1)))) + (Int.tmod a1 a0_0))) + 1)), rd l0_2 (wrap64 ((wrap64 ((wrap64 ((wrap64 ((wrap64 (Int.tdiv a1 a0_0)) * (wrap64 (a0_0 + 1)))) + (Int.tmod a1 a0_0))) + a0_0)) + 2)), rd l0_2 (wrap64 ((wrap64 ((wrap64 ((wrap64 ((wrap64 (Int.tdiv a1 a0_0)) * (wrap64 (a0_0 + 1)))) + (Int.tmod a1 a0_0))) + a0_0)) + 1)))) else (none)) else (none)) else (none)) else (none)) else (none)) else (none)) else (none)) else (none))
def land_four.T1 : Bool × List (List Nat × List Nat) := (true, [([], []), ([], []), ([1], [1]), ([0, 2], [0, 2]), ([], []), ([4], [4]), ([5], [5]), ([3, 6], [3, 6]), ([], []), ([], []), ([9], [9]), ([8, 10], [8, 10]), ([7, 11], [7, 11]), ([12, 0, 1, 2, 3, 4, 5, 6, 7, 8, 9, 10, 11, 12], [12])])
def land_four.B1 : List Nat := [0, 0, 2, 7, 0, 16, 48, 127, 0, 0, 512, 1792, 4095, 8191]
theorem land_four.tab1 : rtab .any (opsOf Tryz.f25 1) = land_four.T1 := by kernel_rfl
theorem land_four.bits1 : waitsOk land_four.T1.2 land_four.B1 = true := by kernel_rfl
def land_four.T2 : Bool × List (List Nat × List Nat) := (true, [([], []), ([0], [0]), ([], []), ([1, 2], [1, 2]), ([3], [3]), ([], []), ([5], [5]), ([], []), ([7], [7]), ([6, 8], [6, 8]), ([9], [9]), ([], []), ([11], [11]), ([], []), ([], []), ([14], [14]), ([13, 15], [13, 15]), ([16], [16]), ([12, 17], [12, 17]), ([18], [18]), ([], []), ([20], [20]), ([], []), ([], []), ([23], [23]), ([22, 24], [22, 24]), ([25], [25]), ([21, 26], [21, 26]), ([27], [27]), ([4, 10, 19, 28], [4, 10, 19, 28]), ([29, 0, 1, 2, 3, 4, 5, 6, 7, 8, 9, 10, 11, 12, 13, 14, 15, 16, 17, 18, 19, 20, 21, 22, 23, 24, 25, 26, 27, 28, 29], [29])])
def land_four.B2 : List Nat := [0, 1, 0, 7, 15, 0, 32, 0, 128, 480, 992, 0, 2048, 0, 0, 16384, 57344, 122880, 260096, 522240, 0, 1048576, 0, 0, 8388608, 29360128, 62914560, 133169152, 267386880, 536870911, 1073741823]
theorem land_four.tab2 : rtab .any (opsOf Tryz.f25 2) = land_four.T2 := by kernel_rfl
theorem land_four.bits2 : waitsOk land_four.T2.2 land_four.B2 = true := by kernel_rfl
set_option maxHeartbeats 8000000 in
set_option maxRecDepth 100000 in
theorem land_four.calls (a0_0 : Int) (a0_1 : Int) (A0_2 : Option Addr) (c0_2 : Nat) (l0_2 : List Int) (a1 : Int) (r1 : Int) (r2 : Int) (r3 : Int) (r4 : Int) (w : World) (hr0_2 : Kd.C (Kd.int .i64) w A0_2 l0_2.length l0_2) (hc0_2 : l0_2.length ≤ c0_2) (h : land_four.f a0_0 a0_1 l0_2 a1 = some (r1, r2, r3, r4)) :
    Calls Tryz.prog 25 #[.agg #[.int .i64 a0_0, .int .i64 a0_1, .slice A0_2 l0_2.length c0_2], .int .i64 a1] w fun e w' => e = .returned (.agg #[.int .i64 r1, .int .i64 r2, .int .i64 r3, .int .i64 r4]) ∧ Below w.heap.size w w' := by
 have hu26 := Tryz.underlying26; have hu98 := Tryz.underlying98; have HR0_2 := Aside0.mk hr0_2; have HC0_2 := Aside0.mk hc0_2; clear hr0_2 hc0_2; have HB := Aside0.mk (Below.refl w.heap.size w); have H : (if a0_0 = 0 then (none) else (if 0 ≤ (wrap64 ((wrap64 ((wrap64 (Int.tdiv a1 a0_0)) * (wrap64 (a0_0 + 1)))) + (Int.tmod a1 a0_0))) then (if (wrap64 ((wrap64 ((wrap64 (Int.tdiv a1 a0_0)) * (wrap64 (a0_0 + 1)))) + (Int.tmod a1 a0_0))) < (l0_2.length : Int) then (if 0 ≤ (wrap64 ((wrap64 ((wrap64 ((wrap64 (Int.tdiv a1 a0_0)) * (wrap64 (a0_0 + 1)))) + (Int.tmod a1 a0_0))) + 1)) then (if (wrap64 ((wrap64 ((wrap64 ((wrap64 (Int.tdiv a1 a0_0)) * (wrap64 (a0_0 + 1)))) + (Int.tmod a1 a0_0))) + 1)) < (l0_2.length : Int) then (if 0 ≤ (wrap64 ((wrap64 ((wrap64 ((wrap64 ((wrap64 (Int.tdiv a1 a0_0)) * (wrap64 (a0_0 + 1)))) + (Int.tmod a1 a0_0))) + a0_0)) + 2)) then (if (wrap64 ((wrap64 ((wrap64 ((wrap64 ((wrap64 (Int.tdiv a1 a0_0)) * (wrap64 (a0_0 + 1)))) + (Int.tmod a1 a0_0))) + a0_0)) + 2)) < (l0_2.length : Int) then (if 0 ≤ (wrap64 ((wrap64 ((wrap64 ((wrap64 ((wrap64 (Int.tdiv a1 a0_0)) * (wrap64 (a0_0 + 1)))) + (Int.tmod a1 a0_0))) + a0_0)) + 1)) then (if (wrap64 ((wrap64 ((wrap64 ((wrap64 ((wrap64 (Int.tdiv a1 a0_0)) * (wrap64 (a0_0 + 1)))) + (Int.tmod a1 a0_0))) + a0_0)) + 1)) < (l0_2.length : Int) then (some (rd l0_2 (wrap64 ((wrap64 ((wrap64 (Int.tdiv a1 a0_0)) * (wrap64 (a0_0 + 1)))) + (Int.tmod a1 a0_0))), rd l0_2 (wrap64 ((wrap64 ((wrap64 ((wrap64 (Int.tdiv a1 a0_0)) * (wrap64 (a0_0 + 1)))) + (Int.tmod a1 a0_0))) + 1)), rd l0_2 (wrap64 ((wrap64 ((wrap64 ((wrap64 ((wrap64 (Int.tdiv a1 a0_0)) * (wrap64 (a0_0 + 1)))) + (Int.tmod a1 a0_0))) + a0_0)) + 2)), rd l0_2 (wrap64 ((wrap64 ((wrap64 ((wrap64 ((wrap64 (Int.tdiv a1 a0_0)) * (wrap64 (a0_0 + 1)))) + (Int.tmod a1 a0_0))) + a0_0)) + 1)))) else (none)) else (none)) else (none)) else (none)) else (none)) else (none)) else (none)) else (none))) = some (r1, r2, r3, r4) := h; clear h
 by_cases c3 : a0_0 = 0
 ·rw [if_pos c3] at H; exact absurd H (by simp)
 ·rw [if_neg c3] at H; have c3b0 : (a0_0 == 0) = false := beq_eq_false_iff_ne.mpr c3; have c3b1 : (a0_0 != 0) = true := bne_iff_ne.mpr c3; obtain ⟨ji4, hji4⟩ : ∃ j_ : Int, (wrap64 ((wrap64 ((wrap64 (Int.tdiv a1 a0_0)) * (wrap64 (a0_0 + 1)))) + (Int.tmod a1 a0_0))) = j_ := ⟨_, rfl⟩; replace H : (if 0 ≤ (ji4) then (if (ji4) < (l0_2.length : Int) then (if 0 ≤ (wrap64 ((ji4) + 1)) then (if (wrap64 ((ji4) + 1)) < (l0_2.length : Int) then (if 0 ≤ (wrap64 ((wrap64 ((ji4) + a0_0)) + 2)) then (if (wrap64 ((wrap64 ((ji4) + a0_0)) + 2)) < (l0_2.length : Int) then (if 0 ≤ (wrap64 ((wrap64 ((ji4) + a0_0)) + 1)) then (if (wrap64 ((wrap64 ((ji4) + a0_0)) + 1)) < (l0_2.length : Int) then (some (rd l0_2 (ji4), rd l0_2 (wrap64 ((ji4) + 1)), rd l0_2 (wrap64 ((wrap64 ((ji4) + a0_0)) + 2)), rd l0_2 (wrap64 ((wrap64 ((ji4) + a0_0)) + 1)))) else (none)) else (none)) else (none)) else (none)) else (none)) else (none)) else (none)) else (none)) = some (r1, r2, r3, r4) := by first | (rw [hji4] at H; exact H) | (simp only [hji4] at H ⊢; exact H)
  have hji4w : (IntKind.i64.wrap ((wrap64 ((wrap64 (Int.tdiv a1 a0_0)) * (wrap64 (a0_0 + 1)))) + (Int.tmod a1 a0_0))) = ji4 := (i64_w _).trans hji4
  by_cases c5 : 0 ≤ (ji4)
  ·rw [if_pos c5] at H; have c5b0 : decide (0 ≤ (ji4)) = true := decide_eq_true c5; clear c5
   by_cases c6 : (ji4) < (l0_2.length : Int)
   ·rw [if_pos c6] at H; have c6b0 : decide ((ji4) < (l0_2.length : Int)) = true := decide_eq_true c6; clear c6; obtain ⟨ji7, hji7⟩ : ∃ j_ : Int, (wrap64 ((ji4) + 1)) = j_ := ⟨_, rfl⟩; replace H : (if 0 ≤ (ji7) then (if (ji7) < (l0_2.length : Int) then (if 0 ≤ (wrap64 ((wrap64 ((ji4) + a0_0)) + 2)) then (if (wrap64 ((wrap64 ((ji4) + a0_0)) + 2)) < (l0_2.length : Int) then (if 0 ≤ (wrap64 ((wrap64 ((ji4) + a0_0)) + 1)) then (if (wrap64 ((wrap64 ((ji4) + a0_0)) + 1)) < (l0_2.length : Int) then (some (rd l0_2 (ji4), rd l0_2 (ji7), rd l0_2 (wrap64 ((wrap64 ((ji4) + a0_0)) + 2)), rd l0_2 (wrap64 ((wrap64 ((ji4) + a0_0)) + 1)))) else (none)) else (none)) else (none)) else (none)) else (none)) else (none)) = some (r1, r2, r3, r4) := by first | (rw [hji7] at H; exact H) | (simp only [hji7] at H ⊢; exact H)
    have hji7w : (IntKind.i64.wrap ((ji4) + 1)) = ji7 := (i64_w _).trans hji7
    by_cases c8 : 0 ≤ (ji7)
    ·rw [if_pos c8] at H; have c8b0 : decide (0 ≤ (ji7)) = true := decide_eq_true c8; clear c8
     by_cases c9 : (ji7) < (l0_2.length : Int)
     ·rw [if_pos c9] at H; have c9b0 : decide ((ji7) < (l0_2.length : Int)) = true := decide_eq_true c9; clear c9; obtain ⟨ji10, hji10⟩ : ∃ j_ : Int, (wrap64 ((wrap64 ((ji4) + a0_0)) + 2)) = j_ := ⟨_, rfl⟩; replace H : (if 0 ≤ (ji10) then (if (ji10) < (l0_2.length : Int) then (if 0 ≤ (wrap64 ((wrap64 ((ji4) + a0_0)) + 1)) then (if (wrap64 ((wrap64 ((ji4) + a0_0)) + 1)) < (l0_2.length : Int) then (some (rd l0_2 (ji4), rd l0_2 (ji7), rd l0_2 (ji10), rd l0_2 (wrap64 ((wrap64 ((ji4) + a0_0)) + 1)))) else (none)) else (none)) else (none)) else (none)) = some (r1, r2, r3, r4) := by first | (rw [hji10] at H; exact H) | (simp only [hji10] at H ⊢; exact H)
      have hji10w : (IntKind.i64.wrap ((wrap64 ((ji4) + a0_0)) + 2)) = ji10 := (i64_w _).trans hji10
      by_cases c11 : 0 ≤ (ji10)
      ·rw [if_pos c11] at H; have c11b0 : decide (0 ≤ (ji10)) = true := decide_eq_true c11; clear c11
       by_cases c12 : (ji10) < (l0_2.length : Int)
       ·rw [if_pos c12] at H; have c12b0 : decide ((ji10) < (l0_2.length : Int)) = true := decide_eq_true c12; clear c12; obtain ⟨ji13, hji13⟩ : ∃ j_ : Int, (wrap64 ((wrap64 ((ji4) + a0_0)) + 1)) = j_ := ⟨_, rfl⟩; replace H : (if 0 ≤ (ji13) then (if (ji13) < (l0_2.length : Int) then (some (rd l0_2 (ji4), rd l0_2 (ji7), rd l0_2 (ji10), rd l0_2 (ji13))) else (none)) else (none)) = some (r1, r2, r3, r4) := by first | (rw [hji13] at H; exact H) | (simp only [hji13] at H ⊢; exact H)
        have hji13w : (IntKind.i64.wrap ((wrap64 ((ji4) + a0_0)) + 1)) = ji13 := (i64_w _).trans hji13
        by_cases c14 : 0 ≤ (ji13)
        ·rw [if_pos c14] at H; have c14b0 : decide (0 ≤ (ji13)) = true := decide_eq_true c14; clear c14
         by_cases c15 : (ji13) < (l0_2.length : Int)
         ·rw [if_pos c15] at H; have c15b0 : decide ((ji13) < (l0_2.length : Int)) = true := decide_eq_true c15; clear c15; simp only [Option.some.injEq, Prod.mk.injEq] at H; obtain ⟨rfl, rfl, rfl, rfl⟩ := H
          go_enter Tryz.func25, Tryz.ntmps25
          try go_wp2_with (first | ((with_reducible refine gate_dst (N := 2) rfl ?_); refine bx_ (N := 2) (cs := #[.int .i64 a0_0, .int .i64 a0_1, .slice A0_2 l0_2.length c0_2]) (t := 26) ?_; intro gb173 hg w16 hbox hb; have BK173 := Aside0.mk (hbox); have GW173 := Aside0.mk ((dS_ hg (dL_ HB) : w.heap.size ≤ gb173)); have GE173 := GW173; replace HB := Aside0.mk (below_step (dL_ HB) hb); clear hb hbox hg) | ((with_reducible refine gate_dst (N := 4) rfl ?_); refine bx_ (N := 4) (cs := #[.int .i64 0, .int .i64 0, .int .i64 0, .int .i64 0]) (t := 98) ?_; intro gb174 hg w17 hbox hb; have BK174 := Aside0.mk (hbox); have GW174 := Aside0.mk ((dS_ hg (dL1_ HB GE173) : w.heap.size ≤ gb174)); have GE174 := GW174; replace HB := Aside0.mk (below_step (dL1_ HB GE173) hb); have NB173_174 := nb_ hg BK173; have NB174_173 := nc_ hg BK173; replace BK173 := bk_ BK173 hb; clear hb hbox hg))
          replace BK173 := Aside0.mk (blk_drew BK173.out); replace BK174 := Aside0.mk (blk_drew BK174.out); replace HB := Aside0.mk (below_drew1 HB.out); refine start_ (n := 14) (S := fun w' => w'.cell? ⟨gb173, 0, none⟩ = some (.int .i64 a0_0) ∧ w'.cell? ⟨gb173, 1, none⟩ = some (.int .i64 a0_1) ∧ w'.cell? ⟨gb173, 2, none⟩ = some (.slice A0_2 l0_2.length c0_2)) (ds := []) ⟨bN 14 0⟩ (by kernel_rfl) rfl rfl ⟨(blk_cell BK173.out 0).trans rfl, (blk_cell BK173.out 1).trans rfl, (blk_cell BK173.out 2).trans rfl⟩ (fun hHeld => ?_); refine with_tabW land_four.tab1 land_four.bits1 (fun HT_ HW_ => ?_)
          generalize w17.drew = w18 at BK173 BK174 HB hHeld ⊢; refine pu_ (i := 0) (N := some 6) (bA 1 14) HT_ rfl ?_; refine pu_ (i := 1) (N := some 7) (bA 2 14) HT_ rfl ?_; refine pu_ (i := 4) (N := some 10) ⟨bN 14 19⟩ HT_ rfl ?_; refine pu_ (i := 8) (N := some 14) ⟨bN 14 275⟩ HT_ rfl ?_; refine pu_ (i := 9) (N := some 15) ⟨bN 14 787⟩ HT_ rfl ?_; refine tk_ (i := 2) (N := some 8) ⟨bN 14 791⟩ HT_ HW_ hHeld rfl ?_; refine pu_ (i := 3) (N := some 9) ⟨bN 14 799⟩ HT_ rfl ?_; refine tk_ (i := 5) (N := some 11) ⟨bN 14 831⟩ HT_ HW_ hHeld rfl ?_; refine pu_ (i := 6) (N := some 12) ⟨bN 14 895⟩ HT_ rfl ?_; refine pu_ (i := 7) (N := some 13) (bA 10 14) HT_ rfl ?_; refine tk_ (i := 10) (N := some 16) (bA 11 14) HT_ HW_ hHeld rfl ?_; refine pu_ (i := 11) (N := some 17) (bA 12 14) HT_ rfl ?_; refine pu_ (i := 12) (N := some 18) (bA 13 14) HT_ rfl ?_; refine pu_ (i := 13) (N := some 5) (bA 14 14) HT_ rfl ?_; refine done_ (done_of HT_.out (by kernel_rfl)) ?_
          try go_wp2
          replace BK173 := Aside0.mk (blk_drew BK173.out); replace BK174 := Aside0.mk (blk_drew BK174.out); replace HB := Aside0.mk (below_drew1 HB.out); have p175 : 0 ≤ ((ji4) : Int) := of_decide_eq_true tW_; have q175 : (ji4) < (l0_2.length : Int) := of_decide_eq_true tW_; obtain ⟨ad175, e175, hx175_0⟩ := Kd.at_int HR0_2.out (ji4) p175 q175; have hw175_0 := hx175_0; cases e175; replace hx175_0 := bc_ HB hx175_0; replace p175 := eq_true p175; replace q175 := eq_true q175; have p176 : 0 ≤ ((ji7) : Int) := of_decide_eq_true tW_; have q176 : (ji7) < (l0_2.length : Int) := of_decide_eq_true tW_; obtain ⟨ad176, e176, hx176_0⟩ := Kd.at_int HR0_2.out (ji7) p176 q176; have hw176_0 := hx176_0; obtain rfl : ad175 = ad176 := (by injection e176); replace hx176_0 := bc_ HB hx176_0; replace p176 := eq_true p176; replace q176 := eq_true q176; have p177 : 0 ≤ ((ji10) : Int) := of_decide_eq_true tW_; have q177 : (ji10) < (l0_2.length : Int) := of_decide_eq_true tW_; obtain ⟨ad177, e177, hx177_0⟩ := Kd.at_int HR0_2.out (ji10) p177 q177; have hw177_0 := hx177_0; obtain rfl : ad175 = ad177 := (by injection e177); replace hx177_0 := bc_ HB hx177_0; replace p177 := eq_true p177; replace q177 := eq_true q177; have p178 : 0 ≤ ((ji13) : Int) := of_decide_eq_true tW_; have q178 : (ji13) < (l0_2.length : Int) := of_decide_eq_true tW_; obtain ⟨ad178, e178, hx178_0⟩ := Kd.at_int HR0_2.out (ji13) p178 q178; have hw178_0 := hx178_0; obtain rfl : ad175 = ad178 := (by injection e178); replace hx178_0 := bc_ HB hx178_0; replace p178 := eq_true p178; replace q178 := eq_true q178; refine start_ (n := 31) (S := fun w' => w'.cell? ⟨gb173, 0, none⟩ = some (.int .i64 a0_0) ∧ w'.cell? ⟨gb173, 1, none⟩ = some (.int .i64 a0_1) ∧ w'.cell? ⟨gb173, 2, none⟩ = some (.slice (some ad175) l0_2.length c0_2) ∧ w'.cell? (ad175.add ((ji4)).toNat) = some (.int .i64 (rd l0_2 (ji4))) ∧ w'.cell? (ad175.add ((ji7)).toNat) = some (.int .i64 (rd l0_2 (ji7))) ∧ w'.cell? (ad175.add ((ji10)).toNat) = some (.int .i64 (rd l0_2 (ji10))) ∧ w'.cell? (ad175.add ((ji13)).toNat) = some (.int .i64 (rd l0_2 (ji13)))) (ds := []) ⟨bN 31 0⟩ (by kernel_rfl) rfl rfl ⟨(blk_cell BK173.out 0).trans rfl, (blk_cell BK173.out 1).trans rfl, (blk_cell BK173.out 2).trans rfl, ((HB.out.cell (World.block_lt_of_cell? w _ hw175_0)).trans hw175_0), ((HB.out.cell (World.block_lt_of_cell? w _ hw176_0)).trans hw176_0), ((HB.out.cell (World.block_lt_of_cell? w _ hw177_0)).trans hw177_0), ((HB.out.cell (World.block_lt_of_cell? w _ hw178_0)).trans hw178_0)⟩ (fun hHeld => ?_); refine with_tabW land_four.tab2 land_four.bits2 (fun HT_ HW_ => ?_)
          generalize w18.drew = w19 at BK173 BK174 HB hx175_0 hx176_0 hx177_0 hx178_0 hHeld ⊢; refine pu_ (i := 0) (N := some 19) (bA 1 31) HT_ rfl ?_; refine pu_ (i := 2) (N := some 21) ⟨bN 31 5⟩ HT_ rfl ?_; refine pu_ (i := 5) (N := some 24) ⟨bN 31 37⟩ HT_ rfl ?_; refine pu_ (i := 7) (N := some 26) ⟨bN 31 165⟩ HT_ rfl ?_; refine pu_ (i := 8) (N := some 27) ⟨bN 31 421⟩ HT_ rfl ?_; refine pu_ (i := 11) (N := some 30) ⟨bN 31 2469⟩ HT_ rfl ?_; refine pu_ (i := 13) (N := some 32) ⟨bN 31 10661⟩ HT_ rfl ?_; refine pu_ (i := 14) (N := some 33) ⟨bN 31 27045⟩ HT_ rfl ?_; refine pu_ (i := 20) (N := some 39) ⟨bN 31 1075621⟩ HT_ rfl ?_; refine pu_ (i := 22) (N := some 41) ⟨bN 31 5269925⟩ HT_ rfl ?_; refine pu_ (i := 23) (N := some 42) ⟨bN 31 13658533⟩ HT_ rfl ?_; refine tk_ (i := 1) (N := some 20) ⟨bN 31 13658535⟩ HT_ HW_ hHeld rfl ?_; refine pu_ (i := 3) (N := some 22) ⟨bN 31 13658543⟩ HT_ rfl ?_; refine tk_ (i := 4) (N := some 23) ⟨bN 31 13658559⟩ HT_ HW_ hHeld rfl ?_; refine tk_ (i := 6) (N := some 25) ⟨bN 31 13658623⟩ HT_ HW_ hHeld rfl ?_; refine pu_ (i := 9) (N := some 28) ⟨bN 31 13659135⟩ HT_ rfl ?_; refine tk_ (i := 10) (N := some 29) ⟨bN 31 13660159⟩ HT_ HW_ hHeld rfl ?_; refine tk_ (i := 12) (N := some 31) ⟨bN 31 13664255⟩ HT_ HW_ hHeld rfl ?_; refine tk_ (i := 15) (N := some 34) ⟨bN 31 13697023⟩ HT_ HW_ hHeld rfl ?_; refine pu_ (i := 16) (N := some 35) ⟨bN 31 13762559⟩ HT_ rfl ?_; refine pu_ (i := 17) (N := some 36) ⟨bN 31 13893631⟩ HT_ rfl ?_; refine pu_ (i := 18) (N := some 37) ⟨bN 31 14155775⟩ HT_ rfl ?_; refine tk_ (i := 19) (N := some 38) ⟨bN 31 14680063⟩ HT_ HW_ hHeld rfl ?_; refine tk_ (i := 21) (N := some 40) (bA 24 31) HT_ HW_ hHeld rfl ?_; refine tk_ (i := 24) (N := some 43) (bA 25 31) HT_ HW_ hHeld rfl ?_; refine pu_ (i := 25) (N := some 44) (bA 26 31) HT_ rfl ?_; refine pu_ (i := 26) (N := some 45) (bA 27 31) HT_ rfl ?_; refine pu_ (i := 27) (N := some 46) (bA 28 31) HT_ rfl ?_; refine tk_ (i := 28) (N := some 47) (bA 29 31) HT_ HW_ hHeld rfl ?_; refine pu_ (i := 29) (N := some 48) (bA 30 31) HT_ rfl ?_; refine on_ (i := 30) (N := none) (bA 31 31) HT_ rfl (fun K hK => ?_); have hs20 : w19.cell? ⟨gb174, 0, none⟩ = some (.int .i64 0) := (blk_cell BK174.out 0).trans rfl; have hfs20 := blk_frozen BK174.out 0; have hns20_0 := NB173_174.out; have hms20_0 := NB174_173.out; have hs21 : w19.cell? ⟨gb174, 1, none⟩ = some (.int .i64 0) := (blk_cell BK174.out 1).trans rfl; have hfs21 := blk_frozen BK174.out 1; have hns21_0 := NB173_174.out; have hms21_0 := NB174_173.out
          have hs22 : w19.cell? ⟨gb174, 2, none⟩ = some (.int .i64 0) := (blk_cell BK174.out 2).trans rfl; have hfs22 := blk_frozen BK174.out 2; have hns22_0 := NB173_174.out; have hms22_0 := NB174_173.out; have hs23 : w19.cell? ⟨gb174, 3, none⟩ = some (.int .i64 0) := (blk_cell BK174.out 3).trans rfl; have hfs23 := blk_frozen BK174.out 3; have hns23_0 := NB173_174.out; have hms23_0 := NB174_173.out; refine skip_ (w1 := ?_) (by rfl) rfl ?_ ?_
          rotate_left
          ·go_simp
           rfl
          refine hK.out _ _ ⟨((cell_far (p := ⟨gb174, _, none⟩) NB173_174.out _).trans (((cell_far (p := ⟨gb174, _, none⟩) NB173_174.out _).trans (((cell_far (p := ⟨gb174, _, none⟩) NB173_174.out _).trans (((cell_far (p := ⟨gb174, _, none⟩) NB173_174.out _).trans (hHeld.1)))))))), ((cell_far (p := ⟨gb174, _, none⟩) NB173_174.out _).trans (((cell_far (p := ⟨gb174, _, none⟩) NB173_174.out _).trans (((cell_far (p := ⟨gb174, _, none⟩) NB173_174.out _).trans (((cell_far (p := ⟨gb174, _, none⟩) NB173_174.out _).trans (hHeld.2.1)))))))), ((cell_far (p := ⟨gb174, _, none⟩) NB173_174.out _).trans (((cell_far (p := ⟨gb174, _, none⟩) NB173_174.out _).trans (((cell_far (p := ⟨gb174, _, none⟩) NB173_174.out _).trans (((cell_far (p := ⟨gb174, _, none⟩) NB173_174.out _).trans (hHeld.2.2.1)))))))), ((cell_far (p := ⟨gb174, _, none⟩) (by first | exact Nat.ne_of_lt (Nat.lt_of_lt_of_le (by have := World.block_lt_of_cell? _ _ hw175_0; first | rwa [add_block] at this | exact this) GW174.out) | (rw [add_block]; exact Nat.ne_of_lt (Nat.lt_of_lt_of_le (by have := World.block_lt_of_cell? _ _ hw175_0; first | rwa [add_block] at this | exact this) GW174.out)) | (show (Addr.add _ _).block ≠ _; rw [add_block]; exact Nat.ne_of_lt (Nat.lt_of_lt_of_le (by have := World.block_lt_of_cell? _ _ hw175_0; first | rwa [add_block] at this | exact this) GW174.out)) | (dsimp only; exact Nat.ne_of_lt (Nat.lt_of_lt_of_le (by have := World.block_lt_of_cell? _ _ hw175_0; first | rwa [add_block] at this | exact this) GW174.out))) _).trans (((cell_far (p := ⟨gb174, _, none⟩) (by first | exact Nat.ne_of_lt (Nat.lt_of_lt_of_le (by have := World.block_lt_of_cell? _ _ hw175_0; first | rwa [add_block] at this | exact this) GW174.out) | (rw [add_block]; exact Nat.ne_of_lt (Nat.lt_of_lt_of_le (by have := World.block_lt_of_cell? _ _ hw175_0; first | rwa [add_block] at this | exact this) GW174.out)) | (show (Addr.add _ _).block ≠ _; rw [add_block]; exact Nat.ne_of_lt (Nat.lt_of_lt_of_le (by have := World.block_lt_of_cell? _ _ hw175_0; first | rwa [add_block] at this | exact this) GW174.out)) | (dsimp only; exact Nat.ne_of_lt (Nat.lt_of_lt_of_le (by have := World.block_lt_of_cell? _ _ hw175_0; first | rwa [add_block] at this | exact this) GW174.out))) _).trans (((cell_far (p := ⟨gb174, _, none⟩) (by first | exact Nat.ne_of_lt (Nat.lt_of_lt_of_le (by have := World.block_lt_of_cell? _ _ hw175_0; first | rwa [add_block] at this | exact this) GW174.out) | (rw [add_block]; exact Nat.ne_of_lt (Nat.lt_of_lt_of_le (by have := World.block_lt_of_cell? _ _ hw175_0; first | rwa [add_block] at this | exact this) GW174.out)) | (show (Addr.add _ _).block ≠ _; rw [add_block]; exact Nat.ne_of_lt (Nat.lt_of_lt_of_le (by have := World.block_lt_of_cell? _ _ hw175_0; first | rwa [add_block] at this | exact this) GW174.out)) | (dsimp only; exact Nat.ne_of_lt (Nat.lt_of_lt_of_le (by have := World.block_lt_of_cell? _ _ hw175_0; first | rwa [add_block] at this | exact this) GW174.out))) _).trans (((cell_far (p := ⟨gb174, _, none⟩) (by first | exact Nat.ne_of_lt (Nat.lt_of_lt_of_le (by have := World.block_lt_of_cell? _ _ hw175_0; first | rwa [add_block] at this | exact this) GW174.out) | (rw [add_block]; exact Nat.ne_of_lt (Nat.lt_of_lt_of_le (by have := World.block_lt_of_cell? _ _ hw175_0; first | rwa [add_block] at this | exact this) GW174.out)) | (show (Addr.add _ _).block ≠ _; rw [add_block]; exact Nat.ne_of_lt (Nat.lt_of_lt_of_le (by have := World.block_lt_of_cell? _ _ hw175_0; first | rwa [add_block] at this | exact this) GW174.out)) | (dsimp only; exact Nat.ne_of_lt (Nat.lt_of_lt_of_le (by have := World.block_lt_of_cell? _ _ hw175_0; first | rwa [add_block] at this | exact this) GW174.out))) _).trans (hHeld.2.2.2.1)))))))), ((cell_far (p := ⟨gb174, _, none⟩) (by first | exact Nat.ne_of_lt (Nat.lt_of_lt_of_le (by have := World.block_lt_of_cell? _ _ hw176_0; first | rwa [add_block] at this | exact this) GW174.out) | (rw [add_block]; exact Nat.ne_of_lt (Nat.lt_of_lt_of_le (by have := World.block_lt_of_cell? _ _ hw176_0; first | rwa [add_block] at this | exact this) GW174.out)) | (show (Addr.add _ _).block ≠ _; rw [add_block]; exact Nat.ne_of_lt (Nat.lt_of_lt_of_le (by have := World.block_lt_of_cell? _ _ hw176_0; first | rwa [add_block] at this | exact this) GW174.out)) | (dsimp only; exact Nat.ne_of_lt (Nat.lt_of_lt_of_le (by have := World.block_lt_of_cell? _ _ hw176_0; first | rwa [add_block] at this | exact this) GW174.out))) _).trans (((cell_far (p := ⟨gb174, _, none⟩) (by first | exact Nat.ne_of_lt (Nat.lt_of_lt_of_le (by have := World.block_lt_of_cell? _ _ hw176_0; first | rwa [add_block] at this | exact this) GW174.out) | (rw [add_block]; exact Nat.ne_of_lt (Nat.lt_of_lt_of_le (by have := World.block_lt_of_cell? _ _ hw176_0; first | rwa [add_block] at this | exact this) GW174.out)) | (show (Addr.add _ _).block ≠ _; rw [add_block]; exact Nat.ne_of_lt (Nat.lt_of_lt_of_le (by have := World.block_lt_of_cell? _ _ hw176_0; first | rwa [add_block] at this | exact this) GW174.out)) | (dsimp only; exact Nat.ne_of_lt (Nat.lt_of_lt_of_le (by have := World.block_lt_of_cell? _ _ hw176_0; first | rwa [add_block] at this | exact this) GW174.out))) _).trans (((cell_far (p := ⟨gb174, _, none⟩) (by first | exact Nat.ne_of_lt (Nat.lt_of_lt_of_le (by have := World.block_lt_of_cell? _ _ hw176_0; first | rwa [add_block] at this | exact this) GW174.out) | (rw [add_block]; exact Nat.ne_of_lt (Nat.lt_of_lt_of_le (by have := World.block_lt_of_cell? _ _ hw176_0; first | rwa [add_block] at this | exact this) GW174.out)) | (show (Addr.add _ _).block ≠ _; rw [add_block]; exact Nat.ne_of_lt (Nat.lt_of_lt_of_le (by have := World.block_lt_of_cell? _ _ hw176_0; first | rwa [add_block] at this | exact this) GW174.out)) | (dsimp only; exact Nat.ne_of_lt (Nat.lt_of_lt_of_le (by have := World.block_lt_of_cell? _ _ hw176_0; first | rwa [add_block] at this | exact this) GW174.out))) _).trans (((cell_far (p := ⟨gb174, _, none⟩) (by first | exact Nat.ne_of_lt (Nat.lt_of_lt_of_le (by have := World.block_lt_of_cell? _ _ hw176_0; first | rwa [add_block] at this | exact this) GW174.out) | (rw [add_block]; exact Nat.ne_of_lt (Nat.lt_of_lt_of_le (by have := World.block_lt_of_cell? _ _ hw176_0; first | rwa [add_block] at this | exact this) GW174.out)) | (show (Addr.add _ _).block ≠ _; rw [add_block]; exact Nat.ne_of_lt (Nat.lt_of_lt_of_le (by have := World.block_lt_of_cell? _ _ hw176_0; first | rwa [add_block] at this | exact this) GW174.out)) | (dsimp only; exact Nat.ne_of_lt (Nat.lt_of_lt_of_le (by have := World.block_lt_of_cell? _ _ hw176_0; first | rwa [add_block] at this | exact this) GW174.out))) _).trans (hHeld.2.2.2.2.1)))))))), ((cell_far (p := ⟨gb174, _, none⟩) (by first | exact Nat.ne_of_lt (Nat.lt_of_lt_of_le (by have := World.block_lt_of_cell? _ _ hw177_0; first | rwa [add_block] at this | exact this) GW174.out) | (rw [add_block]; exact Nat.ne_of_lt (Nat.lt_of_lt_of_le (by have := World.block_lt_of_cell? _ _ hw177_0; first | rwa [add_block] at this | exact this) GW174.out)) | (show (Addr.add _ _).block ≠ _; rw [add_block]; exact Nat.ne_of_lt (Nat.lt_of_lt_of_le (by have := World.block_lt_of_cell? _ _ hw177_0; first | rwa [add_block] at this | exact this) GW174.out)) | (dsimp only; exact Nat.ne_of_lt (Nat.lt_of_lt_of_le (by have := World.block_lt_of_cell? _ _ hw177_0; first | rwa [add_block] at this | exact this) GW174.out))) _).trans (((cell_far (p := ⟨gb174, _, none⟩) (by first | exact Nat.ne_of_lt (Nat.lt_of_lt_of_le (by have := World.block_lt_of_cell? _ _ hw177_0; first | rwa [add_block] at this | exact this) GW174.out) | (rw [add_block]; exact Nat.ne_of_lt (Nat.lt_of_lt_of_le (by have := World.block_lt_of_cell? _ _ hw177_0; first | rwa [add_block] at this | exact this) GW174.out)) | (show (Addr.add _ _).block ≠ _; rw [add_block]; exact Nat.ne_of_lt (Nat.lt_of_lt_of_le (by have := World.block_lt_of_cell? _ _ hw177_0; first | rwa [add_block] at this | exact this) GW174.out)) | (dsimp only; exact Nat.ne_of_lt (Nat.lt_of_lt_of_le (by have := World.block_lt_of_cell? _ _ hw177_0; first | rwa [add_block] at this | exact this) GW174.out))) _).trans (((cell_far (p := ⟨gb174, _, none⟩) (by first | exact Nat.ne_of_lt (Nat.lt_of_lt_of_le (by have := World.block_lt_of_cell? _ _ hw177_0; first | rwa [add_block] at this | exact this) GW174.out) | (rw [add_block]; exact Nat.ne_of_lt (Nat.lt_of_lt_of_le (by have := World.block_lt_of_cell? _ _ hw177_0; first | rwa [add_block] at this | exact this) GW174.out)) | (show (Addr.add _ _).block ≠ _; rw [add_block]; exact Nat.ne_of_lt (Nat.lt_of_lt_of_le (by have := World.block_lt_of_cell? _ _ hw177_0; first | rwa [add_block] at this | exact this) GW174.out)) | (dsimp only; exact Nat.ne_of_lt (Nat.lt_of_lt_of_le (by have := World.block_lt_of_cell? _ _ hw177_0; first | rwa [add_block] at this | exact this) GW174.out))) _).trans (((cell_far (p := ⟨gb174, _, none⟩) (by first | exact Nat.ne_of_lt (Nat.lt_of_lt_of_le (by have := World.block_lt_of_cell? _ _ hw177_0; first | rwa [add_block] at this | exact this) GW174.out) | (rw [add_block]; exact Nat.ne_of_lt (Nat.lt_of_lt_of_le (by have := World.block_lt_of_cell? _ _ hw177_0; first | rwa [add_block] at this | exact this) GW174.out)) | (show (Addr.add _ _).block ≠ _; rw [add_block]; exact Nat.ne_of_lt (Nat.lt_of_lt_of_le (by have := World.block_lt_of_cell? _ _ hw177_0; first | rwa [add_block] at this | exact this) GW174.out)) | (dsimp only; exact Nat.ne_of_lt (Nat.lt_of_lt_of_le (by have := World.block_lt_of_cell? _ _ hw177_0; first | rwa [add_block] at this | exact this) GW174.out))) _).trans (hHeld.2.2.2.2.2.1)))))))), ((cell_far (p := ⟨gb174, _, none⟩) (by first | exact Nat.ne_of_lt (Nat.lt_of_lt_of_le (by have := World.block_lt_of_cell? _ _ hw178_0; first | rwa [add_block] at this | exact this) GW174.out) | (rw [add_block]; exact Nat.ne_of_lt (Nat.lt_of_lt_of_le (by have := World.block_lt_of_cell? _ _ hw178_0; first | rwa [add_block] at this | exact this) GW174.out)) | (show (Addr.add _ _).block ≠ _; rw [add_block]; exact Nat.ne_of_lt (Nat.lt_of_lt_of_le (by have := World.block_lt_of_cell? _ _ hw178_0; first | rwa [add_block] at this | exact this) GW174.out)) | (dsimp only; exact Nat.ne_of_lt (Nat.lt_of_lt_of_le (by have := World.block_lt_of_cell? _ _ hw178_0; first | rwa [add_block] at this | exact this) GW174.out))) _).trans (((cell_far (p := ⟨gb174, _, none⟩) (by first | exact Nat.ne_of_lt (Nat.lt_of_lt_of_le (by have := World.block_lt_of_cell? _ _ hw178_0; first | rwa [add_block] at this | exact this) GW174.out) | (rw [add_block]; exact Nat.ne_of_lt (Nat.lt_of_lt_of_le (by have := World.block_lt_of_cell? _ _ hw178_0; first | rwa [add_block] at this | exact this) GW174.out)) | (show (Addr.add _ _).block ≠ _; rw [add_block]; exact Nat.ne_of_lt (Nat.lt_of_lt_of_le (by have := World.block_lt_of_cell? _ _ hw178_0; first | rwa [add_block] at this | exact this) GW174.out)) | (dsimp only; exact Nat.ne_of_lt (Nat.lt_of_lt_of_le (by have := World.block_lt_of_cell? _ _ hw178_0; first | rwa [add_block] at this | exact this) GW174.out))) _).trans (((cell_far (p := ⟨gb174, _, none⟩) (by first | exact Nat.ne_of_lt (Nat.lt_of_lt_of_le (by have := World.block_lt_of_cell? _ _ hw178_0; first | rwa [add_block] at this | exact this) GW174.out) | (rw [add_block]; exact Nat.ne_of_lt (Nat.lt_of_lt_of_le (by have := World.block_lt_of_cell? _ _ hw178_0; first | rwa [add_block] at this | exact this) GW174.out)) | (show (Addr.add _ _).block ≠ _; rw [add_block]; exact Nat.ne_of_lt (Nat.lt_of_lt_of_le (by have := World.block_lt_of_cell? _ _ hw178_0; first | rwa [add_block] at this | exact this) GW174.out)) | (dsimp only; exact Nat.ne_of_lt (Nat.lt_of_lt_of_le (by have := World.block_lt_of_cell? _ _ hw178_0; first | rwa [add_block] at this | exact this) GW174.out))) _).trans (((cell_far (p := ⟨gb174, _, none⟩) (by first | exact Nat.ne_of_lt (Nat.lt_of_lt_of_le (by have := World.block_lt_of_cell? _ _ hw178_0; first | rwa [add_block] at this | exact this) GW174.out) | (rw [add_block]; exact Nat.ne_of_lt (Nat.lt_of_lt_of_le (by have := World.block_lt_of_cell? _ _ hw178_0; first | rwa [add_block] at this | exact this) GW174.out)) | (show (Addr.add _ _).block ≠ _; rw [add_block]; exact Nat.ne_of_lt (Nat.lt_of_lt_of_le (by have := World.block_lt_of_cell? _ _ hw178_0; first | rwa [add_block] at this | exact this) GW174.out)) | (dsimp only; exact Nat.ne_of_lt (Nat.lt_of_lt_of_le (by have := World.block_lt_of_cell? _ _ hw178_0; first | rwa [add_block] at this | exact this) GW174.out))) _).trans (hHeld.2.2.2.2.2.2))))))))⟩ (fun hHeld => ?_)
          clear hK K; refine done_ (done_of HT_.out (by kernel_rfl)) ?_
          try go_wp2
          refine bodyPost_ret (results_cell_row rfl _ _ gb174 98 #[.int .i64 (rd l0_2 (ji4)), .int .i64 (rd l0_2 (ji7)), .int .i64 (rd l0_2 (ji10)), .int .i64 (rd l0_2 (ji13))] (0, 0) _ rfl (bz_ BK174) Tryz.underlying98 rfl (by kernel_rfl)) rfl ?_; exact ⟨by first | rfl | (simp [errW_none, errW_some] <;> rfl) | (simp only [← hji4, ← hji7, ← hji10, ← hji13]; first | rfl | (simp [errW_none, errW_some] <;> rfl)) | (simp [*, errW_none, errW_some] <;> rfl), dL2_ HB GE173 GE174⟩
         ·rw [if_neg c15] at H; exact absurd H (by simp)
        ·rw [if_neg c14] at H; exact absurd H (by simp)
       ·rw [if_neg c12] at H; exact absurd H (by simp)
      ·rw [if_neg c11] at H; exact absurd H (by simp)
     ·rw [if_neg c9] at H; exact absurd H (by simp)
    ·rw [if_neg c8] at H; exact absurd H (by simp)
   ·rw [if_neg c6] at H; exact absurd H (by simp)
  ·rw [if_neg c5] at H; exact absurd H (by simp)

end Go.Proofs.YtldbkigenaakkaaGreatDoor.Q
