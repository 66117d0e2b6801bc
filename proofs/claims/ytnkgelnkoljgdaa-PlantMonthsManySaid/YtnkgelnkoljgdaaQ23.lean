-- PRINTED by print.py out of the translation. Not trusted: Lean checks it.
import Derived.Test.YtnkgelnkoljgdaaPrs
import Derived.Test.YtnkgelnkoljgdaaQ0
import Derived.Test.YtnkgelnkoljgdaaQ19
namespace Go.Proofs.Ytnkgelnkoljgdaa.Q
open Go.RowKit Go.Proofs.YtnkgelnkoljgdaaPrs Go.Proofs.YtnkgelnkoljgdaaOwn Go.Proofs.YtnkgelnkoljgdaaW.PrintWords Go.Proofs.YtnkgelnkoljgdaaW.PrintLast Go.Proofs.YtnkgelnkoljgdaaW.PrintMore
attribute [local go_sem] max2_int min2_int max_two min_two max_three min_three max_four min_four   -- for this text's walks alone
set_option linter.unusedVariables false
set_option linter.unusedSimpArgs false

/-! ### hinterlandref10_right: function 48 -/
mutual
def hinterlandref10_right.j0 : Nat → Bool → ByteArray → List Int → List (S41) → Option (Bool)
  | 0, _, _, _, _ => none
  | k + 1, x22, x299000, x299001, x299002 => if x22 = true then (some false) else (hinterlandref10_right.l0 k x299001 (x299001.length : Int) 0 x299000 x299001 x299002)
def hinterlandref10_right.l0 : Nat → List Int → Int → Int → ByteArray → List Int → List (S41) → Option (Bool)
  | 0, _, _, _, _, _, _ => none
  | k + 1, x24, x25, x26, x299000, x299001, x299002 => if x26 < x25 then (if 0 ≤ x26 then (if x26 < (x24.length : Int) then ((hinterlandref10_within.f (rd x24 x26) 0 15).bind fun t301 => (if t301 = true then (if x26 > 0 then (if 0 ≤ (wrap64 (x26 - 1)) then (if (wrap64 (x26 - 1)) < (x299001.length : Int) then (hinterlandref10_right.j2 k x24 x25 x26 (decide ((rd x299001 (wrap64 (x26 - 1))) ≥ (rd x24 x26))) x299000 x299001 x299002) else (none)) else (none)) else (hinterlandref10_right.j2 k x24 x25 x26 false x299000 x299001 x299002)) else (hinterlandref10_right.j2 k x24 x25 x26 true x299000 x299001 x299002))) else (none)) else (none)) else (hinterlandref10_right.l1 k x299002 (x299002.length : Int) 0 x299000 x299001 x299002)
def hinterlandref10_right.j2 : Nat → List Int → Int → Int → Bool → ByteArray → List Int → List (S41) → Option (Bool)
  | 0, _, _, _, _, _, _, _ => none
  | k + 1, x24, x25, x26, x47, x299000, x299001, x299002 => if x47 = true then (some false) else (hinterlandref10_right.l0 k x24 x25 (wrap64 (x26 + 1)) x299000 x299001 x299002)
def hinterlandref10_right.l1 : Nat → List (S41) → Int → Int → ByteArray → List Int → List (S41) → Option (Bool)
  | 0, _, _, _, _, _, _ => none
  | k + 1, x50, x51, x52, x299000, x299001, x299002 => if x52 < x51 then (if 0 ≤ x52 then (if x52 < (x50.length : Int) then ((hinterlandref10_within.f ((rd_T41 x50 x52).f0) 0 15).bind fun t305 => (if t305 = true then ((hinterlandref10_within.f ((rd_T41 x50 x52).f1) 1 1000).bind fun t306 => (if t306 = true then (if x52 > 0 then (if 0 ≤ (wrap64 (x52 - 1)) then (if (wrap64 (x52 - 1)) < (x299002.length : Int) then (hinterlandref10_right.j4 k x50 x51 x52 (decide (((rd_T41 x299002 (wrap64 (x52 - 1))).f0) ≥ ((rd_T41 x50 x52).f0))) x299000 x299001 x299002) else (none)) else (none)) else (hinterlandref10_right.j4 k x50 x51 x52 false x299000 x299001 x299002)) else (hinterlandref10_right.j4 k x50 x51 x52 true x299000 x299001 x299002))) else (hinterlandref10_right.j4 k x50 x51 x52 true x299000 x299001 x299002))) else (none)) else (none)) else (some true)
def hinterlandref10_right.j4 : Nat → List (S41) → Int → Int → Bool → ByteArray → List Int → List (S41) → Option (Bool)
  | 0, _, _, _, _, _, _, _ => none
  | k + 1, x50, x51, x52, x82, x299000, x299001, x299002 => if x82 = true then (some false) else (hinterlandref10_right.l1 k x50 x51 (wrap64 (x52 + 1)) x299000 x299001 x299002)
end
def hinterlandref10_right.f (k : Nat) (a0_0 : ByteArray) (l0_1 : List Int) (l0_2 : List (S41)) : Option (Bool) := (hinterlandref10_Named.f k a0_0).bind fun t299 => (if t299 = true then (if (l0_1.length : Int) > 4 then (hinterlandref10_right.j0 k true a0_0 l0_1 l0_2) else (hinterlandref10_right.j0 k (decide ((l0_2.length : Int) > 4)) a0_0 l0_1 l0_2)) else (hinterlandref10_right.j0 k true a0_0 l0_1 l0_2))
theorem hinterlandref10_right.mono_l : ∀ k, (∀ y0 y1 y2 y3, LeO (hinterlandref10_right.j0 k y0 y1 y2 y3) (hinterlandref10_right.j0 (k + 1) y0 y1 y2 y3)) ∧ (∀ y0 y1 y2 y3 y4 y5, LeO (hinterlandref10_right.l0 k y0 y1 y2 y3 y4 y5) (hinterlandref10_right.l0 (k + 1) y0 y1 y2 y3 y4 y5)) ∧ (∀ y0 y1 y2 y3 y4 y5 y6, LeO (hinterlandref10_right.j2 k y0 y1 y2 y3 y4 y5 y6) (hinterlandref10_right.j2 (k + 1) y0 y1 y2 y3 y4 y5 y6)) ∧ (∀ y0 y1 y2 y3 y4 y5, LeO (hinterlandref10_right.l1 k y0 y1 y2 y3 y4 y5) (hinterlandref10_right.l1 (k + 1) y0 y1 y2 y3 y4 y5)) ∧ (∀ y0 y1 y2 y3 y4 y5 y6, LeO (hinterlandref10_right.j4 k y0 y1 y2 y3 y4 y5 y6) (hinterlandref10_right.j4 (k + 1) y0 y1 y2 y3 y4 y5 y6))
  | 0 => ⟨fun _ _ _ _ r h => by simp [hinterlandref10_right.j0] at h, fun _ _ _ _ _ _ r h => by simp [hinterlandref10_right.l0] at h, fun _ _ _ _ _ _ _ r h => by simp [hinterlandref10_right.j2] at h, fun _ _ _ _ _ _ r h => by simp [hinterlandref10_right.l1] at h, fun _ _ _ _ _ _ _ r h => by simp [hinterlandref10_right.j4] at h⟩
  | k + 1 => by
    obtain ⟨ih0, ih1, ih2, ih3, ih4⟩ := hinterlandref10_right.mono_l k; refine ⟨?_, ?_, ?_, ?_, ?_⟩
    · intro y0 y1 y2 y3
      unfold hinterlandref10_right.j0
      repeat' first
      | (with_reducible first | apply ih0 | apply ih1 | apply ih2 | apply ih3 | apply ih4 | apply hinterlandref10_Named.mono | exact LeO.refl _ | exact LeO.none _ | refine LeO.ite ?_ ?_ | refine LeO.bind ?_ (fun _ => ?_))
    · intro y0 y1 y2 y3 y4 y5
      unfold hinterlandref10_right.l0
      repeat' first
      | (with_reducible first | apply ih0 | apply ih1 | apply ih2 | apply ih3 | apply ih4 | apply hinterlandref10_Named.mono | exact LeO.refl _ | exact LeO.none _ | refine LeO.ite ?_ ?_ | refine LeO.bind ?_ (fun _ => ?_))
    · intro y0 y1 y2 y3 y4 y5 y6
      unfold hinterlandref10_right.j2
      repeat' first
      | (with_reducible first | apply ih0 | apply ih1 | apply ih2 | apply ih3 | apply ih4 | apply hinterlandref10_Named.mono | exact LeO.refl _ | exact LeO.none _ | refine LeO.ite ?_ ?_ | refine LeO.bind ?_ (fun _ => ?_))
    · intro y0 y1 y2 y3 y4 y5
      unfold hinterlandref10_right.l1
      repeat' first
      | (with_reducible first | apply ih0 | apply ih1 | apply ih2 | apply ih3 | apply ih4 | apply hinterlandref10_Named.mono | exact LeO.refl _ | exact LeO.none _ | refine LeO.ite ?_ ?_ | refine LeO.bind ?_ (fun _ => ?_))
    · intro y0 y1 y2 y3 y4 y5 y6
      unfold hinterlandref10_right.j4
      repeat' first
      | (with_reducible first | apply ih0 | apply ih1 | apply ih2 | apply ih3 | apply ih4 | apply hinterlandref10_Named.mono | exact LeO.refl _ | exact LeO.none _ | refine LeO.ite ?_ ?_ | refine LeO.bind ?_ (fun _ => ?_))
theorem hinterlandref10_right.mono : ∀ a0 a1 a2 k, LeO (hinterlandref10_right.f k a0 a1 a2) (hinterlandref10_right.f (k + 1) a0 a1 a2) := by
  intro a0 a1 a2 k; obtain ⟨ih0, ih1, ih2, ih3, ih4⟩ := hinterlandref10_right.mono_l k
  unfold hinterlandref10_right.f
  repeat' first
      | (with_reducible first | apply ih0 | apply ih1 | apply ih2 | apply ih3 | apply ih4 | apply hinterlandref10_Named.mono | exact LeO.refl _ | exact LeO.none _ | refine LeO.ite ?_ ?_ | refine LeO.bind ?_ (fun _ => ?_))
set_option maxHeartbeats 8000000 in
set_option maxRecDepth 100000 in
theorem hinterlandref10_right.calls (k : Nat) (a0_0 : ByteArray) (A0_1 : Option Addr) (c0_1 : Nat) (l0_1 : List Int) (A0_2 : Option Addr) (c0_2 : Nat) (l0_2 : List (S41)) (r : Bool) (w : World) (hr0_1 : Kd.C (Kd.int .i64) w A0_1 l0_1.length l0_1) (hc0_1 : l0_1.length ≤ c0_1) (hr0_2 : Kd.C k41 w A0_2 l0_2.length l0_2) (hc0_2 : l0_2.length ≤ c0_2) (h : hinterlandref10_right.f k a0_0 l0_1 l0_2 = some r) :
    Calls Try.prog 48 #[.agg #[.string a0_0, .slice A0_1 l0_1.length c0_1, .slice A0_2 l0_2.length c0_2]] w fun e w' => e = .returned (.bool r) ∧ Below w.heap.size w w' := by
 have hu39 := Try.underlying39; have hu41 := Try.underlying41; have HR0_1 := Aside0.mk hr0_1; have HC0_1 := Aside0.mk hc0_1; clear hr0_1 hc0_1; have HR0_2 := Aside0.mk hr0_2; have HC0_2 := Aside0.mk hc0_2; clear hr0_2 hc0_2; have HB := Aside0.mk (Below.refl w.heap.size w); have H : ((hinterlandref10_Named.f k a0_0).bind fun t299 => (if t299 = true then (if (l0_1.length : Int) > 4 then (hinterlandref10_right.j0 k true a0_0 l0_1 l0_2) else (hinterlandref10_right.j0 k (decide ((l0_2.length : Int) > 4)) a0_0 l0_1 l0_2)) else (hinterlandref10_right.j0 k true a0_0 l0_1 l0_2))) = some r := h; clear h; have HC2 := Aside0.mk H; clear H
 go_enter Try.func48, Try.ntmps48
 go_upto_region 1 with (first | ((with_reducible refine gate_dst (N := 1) rfl ?_); (try (refine gate_guard (by rfl) ?_; dsimp only)); refine bx_ (N := 1) (cs := #[.string a0_0, .slice A0_1 l0_1.length c0_1, .slice A0_2 l0_2.length c0_2]) (t := 39) ?_; intro gb298 hg w3 hbox hb; have BK298 := Aside0.mk (hbox); have GW298 := Aside0.mk ((dS_ hg (dL_ HB) : w.heap.size ≤ gb298)); have GE298 := GW298; replace HB := Aside0.mk (below_step (dL_ HB) hb); clear hb hbox hg))
 repeat (go_quiet (first | ((with_reducible refine gate_dst (N := 1) rfl ?_); (try (refine gate_guard (by rfl) ?_; dsimp only)); refine bx_ (N := 1) (cs := #[.string a0_0, .slice A0_1 l0_1.length c0_1, .slice A0_2 l0_2.length c0_2]) (t := 39) ?_; intro gb298 hg w3 hbox hb; have BK298 := Aside0.mk (hbox); have GW298 := Aside0.mk ((dS_ hg (dL_ HB) : w.heap.size ≤ gb298)); have GE298 := GW298; replace HB := Aside0.mk (below_step (dL_ HB) hb); clear hb hbox hg)); go_upto_region 1 with (first | ((with_reducible refine gate_dst (N := 1) rfl ?_); (try (refine gate_guard (by rfl) ?_; dsimp only)); refine bx_ (N := 1) (cs := #[.string a0_0, .slice A0_1 l0_1.length c0_1, .slice A0_2 l0_2.length c0_2]) (t := 39) ?_; intro gb298 hg w3 hbox hb; have BK298 := Aside0.mk (hbox); have GW298 := Aside0.mk ((dS_ hg (dL_ HB) : w.heap.size ≤ gb298)); have GE298 := GW298; replace HB := Aside0.mk (below_step (dL_ HB) hb); clear hb hbox hg)))
 (try simp only [Act.put, List.setIfInBounds_toArray, List.set_cons_zero, List.set_cons_succ])
 go_cut [22] (fun v22 wc => ∃ (kq : Nat) (x22_1 : Bool), v22 = .bool x22_1 ∧ Aside0 (hinterlandref10_right.j0 kq x22_1 a0_0 l0_1 l0_2 = some r) ∧ Aside0 (kq ≤ k) ∧ Aside0 (wc.heap[gb298]? = some (.cells #[.string a0_0, (.slice A0_1 l0_1.length c0_1), (.slice A0_2 l0_2.length c0_2)] 39 (0, 0))) ∧ Aside0 (Below w.heap.size w wc))
 case first =>
  have H := HC2.out; clear HC2; replace H := Option.bind_eq_some_iff.mp H; obtain ⟨t299, A40, H⟩ := H; have A4 := Aside0.mk A40; clear A40
  by_cases c5 : t299 = true
  ·subst c5; rw [if_pos rfl] at H
   by_cases c6 : (l0_1.length : Int) > 4
   ·rw [if_pos c6] at H; have c6b0 : decide (4 < (l0_1.length : Int)) = true := decide_eq_true c6; have c6b1 : decide (4 < l0_1.length) = true := decide_eq_true (by omega); clear c6
    (first | rw [c6b0] | (simp only [i64_w, i32_w]; rw [c6b0]) | skip)
    have H' := Aside0.mk H; clear H; obtain ⟨z7a, z7b, z7c, y7a, y7b, y7c⟩ := cs3_ BK298.out
    go_wp2_with (first | (go_at_call 53; (with_reducible refine (hinterlandref10_Named.calls k a0_0 true _ A4.out).mono ?_); rintro e w' ⟨rfl, ⟨nd, rfl⟩⟩; (try first | exact ⟨rfl, _, World.drewN_drewN _ _ _⟩ | exact ⟨rfl, _, Eq.trans (World.drewN_drewN _ _ _) (congrArg (World.drewN _) (Nat.add_assoc _ _ _))⟩)))
    repeat (go_quiet (first | (go_at_call 53; (with_reducible refine (hinterlandref10_Named.calls k a0_0 true _ A4.out).mono ?_); rintro e w' ⟨rfl, ⟨nd, rfl⟩⟩; (try first | exact ⟨rfl, _, World.drewN_drewN _ _ _⟩ | exact ⟨rfl, _, Eq.trans (World.drewN_drewN _ _ _) (congrArg (World.drewN _) (Nat.add_assoc _ _ _))⟩))); try go_wp2_with (first | (go_at_call 53; (with_reducible refine (hinterlandref10_Named.calls k a0_0 true _ A4.out).mono ?_); rintro e w' ⟨rfl, ⟨nd, rfl⟩⟩; (try first | exact ⟨rfl, _, World.drewN_drewN _ _ _⟩ | exact ⟨rfl, _, Eq.trans (World.drewN_drewN _ _ _) (congrArg (World.drewN _) (Nat.add_assoc _ _ _))⟩))))
    go_meet
    case rel => exact ⟨_, (true), tS_, H', ⟨by first | omega | exact Nat.le_refl _⟩, ⟨dB_ BK298⟩, ⟨dL1_ HB GE298⟩⟩
   ·rw [if_neg c6] at H; have c6b0 : decide (4 < (l0_1.length : Int)) = false := decide_eq_false c6; have c6b1 : decide (4 < l0_1.length) = false := decide_eq_false (by omega); clear c6
    (first | rw [c6b0] | (simp only [i64_w, i32_w]; rw [c6b0]) | skip)
    have H' := Aside0.mk H; clear H; obtain ⟨z8a, z8b, z8c, y8a, y8b, y8c⟩ := cs3_ BK298.out
    go_wp2_with (first | (go_at_call 53; (with_reducible refine (hinterlandref10_Named.calls k a0_0 true _ A4.out).mono ?_); rintro e w' ⟨rfl, ⟨nd, rfl⟩⟩; (try first | exact ⟨rfl, _, World.drewN_drewN _ _ _⟩ | exact ⟨rfl, _, Eq.trans (World.drewN_drewN _ _ _) (congrArg (World.drewN _) (Nat.add_assoc _ _ _))⟩)))
    repeat (go_quiet (first | (go_at_call 53; (with_reducible refine (hinterlandref10_Named.calls k a0_0 true _ A4.out).mono ?_); rintro e w' ⟨rfl, ⟨nd, rfl⟩⟩; (try first | exact ⟨rfl, _, World.drewN_drewN _ _ _⟩ | exact ⟨rfl, _, Eq.trans (World.drewN_drewN _ _ _) (congrArg (World.drewN _) (Nat.add_assoc _ _ _))⟩))); try go_wp2_with (first | (go_at_call 53; (with_reducible refine (hinterlandref10_Named.calls k a0_0 true _ A4.out).mono ?_); rintro e w' ⟨rfl, ⟨nd, rfl⟩⟩; (try first | exact ⟨rfl, _, World.drewN_drewN _ _ _⟩ | exact ⟨rfl, _, Eq.trans (World.drewN_drewN _ _ _) (congrArg (World.drewN _) (Nat.add_assoc _ _ _))⟩))))
    go_meet
    case rel => exact ⟨_, (decide ((l0_2.length : Int) > 4)), tS_, H', ⟨by first | omega | exact Nat.le_refl _⟩, ⟨dB_ BK298⟩, ⟨dL1_ HB GE298⟩⟩
  ·replace c5 := Bool.eq_false_iff.mpr c5; subst c5; rw [if_neg (show ¬ (false = true) by decide)] at H; have H' := Aside0.mk H; clear H; obtain ⟨z9a, z9b, z9c, y9a, y9b, y9c⟩ := cs3_ BK298.out
   go_wp2_with (first | (go_at_call 53; (with_reducible refine (hinterlandref10_Named.calls k a0_0 false _ A4.out).mono ?_); rintro e w' ⟨rfl, ⟨nd, rfl⟩⟩; (try first | exact ⟨rfl, _, World.drewN_drewN _ _ _⟩ | exact ⟨rfl, _, Eq.trans (World.drewN_drewN _ _ _) (congrArg (World.drewN _) (Nat.add_assoc _ _ _))⟩)))
   repeat (go_quiet (first | (go_at_call 53; (with_reducible refine (hinterlandref10_Named.calls k a0_0 false _ A4.out).mono ?_); rintro e w' ⟨rfl, ⟨nd, rfl⟩⟩; (try first | exact ⟨rfl, _, World.drewN_drewN _ _ _⟩ | exact ⟨rfl, _, Eq.trans (World.drewN_drewN _ _ _) (congrArg (World.drewN _) (Nat.add_assoc _ _ _))⟩))); try go_wp2_with (first | (go_at_call 53; (with_reducible refine (hinterlandref10_Named.calls k a0_0 false _ A4.out).mono ?_); rintro e w' ⟨rfl, ⟨nd, rfl⟩⟩; (try first | exact ⟨rfl, _, World.drewN_drewN _ _ _⟩ | exact ⟨rfl, _, Eq.trans (World.drewN_drewN _ _ _) (congrArg (World.drewN _) (Nat.add_assoc _ _ _))⟩))))
   go_meet
   case rel => exact ⟨_, (true), tS_, H', ⟨by first | omega | exact Nat.le_refl _⟩, ⟨dB_ BK298⟩, ⟨dL1_ HB GE298⟩⟩
 case rest =>
  clear HC2; (try clear c6); obtain ⟨kq, x22_1, rfl, HA, HJ1, BK298, HB⟩ := hcut
  cases kq with
  | zero => exact absurd HA.out (by simp [hinterlandref10_right.j0])
  | succ kj1 =>
   have H := HA.out; clear HA; simp only [hinterlandref10_right.j0] at H
   by_cases c10 : x22_1 = true
   ·subst c10; rw [if_pos rfl] at H; obtain rfl := Option.some.inj H; go_wp2
    repeat (go_quiet (fail); try go_wp2)
    go_ret
    exact ⟨tE_, dL1_ HB GE298⟩
   ·replace c10 := Bool.eq_false_iff.mpr c10; subst c10; rw [if_neg (show ¬ (false = true) by decide)] at H; have H' := Aside0.mk H; clear H; obtain ⟨z11a, z11b, z11c, y11a, y11b, y11c⟩ := cs3_ BK298.out; go_wp2
    repeat (go_quiet (fail); try go_wp2)
    go_loopg [26] kj1 (fun kq v26 w' => ∃ (x26_2 : Int), v26 = .int .i64 x26_2 ∧ Aside0 (hinterlandref10_right.l0 kq l0_1 (l0_1.length : Int) x26_2 a0_0 l0_1 l0_2 = some r) ∧ Aside0 (kq ≤ kj1) ∧ Aside0 (w'.heap[gb298]? = some (.cells #[.string a0_0, (.slice A0_1 l0_1.length c0_1), (.slice A0_2 l0_2.length c0_2)] 39 (0, 0))) ∧ Aside0 (Below w.heap.size w w'))
    case atStart => exact ⟨(0), tS_, H', ⟨Nat.le_refl _⟩, ⟨dB_ BK298⟩, ⟨dL1_ HB GE298⟩⟩
    case round =>
     clear H'; (try clear c6); (try clear c10); (try clear z11a z11b z11c y11a y11b y11c); obtain ⟨x26_2, rfl, HA, HK2, BK298, HB⟩ := hrel
     cases gk with
     | zero => exact absurd HA.out (by simp [hinterlandref10_right.l0])
     | succ k2 =>
      have H := HA.out; clear HA; simp only [hinterlandref10_right.l0] at H
      by_cases c12 : x26_2 < (l0_1.length : Int)
      ·rw [if_pos c12] at H; have c12b0 : decide (x26_2 < (l0_1.length : Int)) = true := decide_eq_true c12; clear c12
       by_cases c13 : 0 ≤ x26_2
       ·rw [if_pos c13] at H; have c13b0 : decide (0 ≤ x26_2) = true := decide_eq_true c13; clear c13
        by_cases c14 : x26_2 < (l0_1.length : Int)
        ·rw [if_pos c14] at H; have c14b0 : decide (x26_2 < (l0_1.length : Int)) = true := decide_eq_true c14; clear c14; have HC15 := Aside0.mk H; clear H; have p300 : 0 ≤ (x26_2 : Int) := of_decide_eq_true tW_; have q300 : x26_2 < (l0_1.length : Int) := of_decide_eq_true tW_; obtain ⟨ad300, e300, hx300_0⟩ := Kd.at_int HR0_1.out x26_2 p300 q300; cases e300; replace hx300_0 := bc_ HB hx300_0; replace p300 := eq_true p300; replace q300 := eq_true q300
         go_upto_region 6 with (fail)
         repeat (go_quiet (fail); go_upto_region 6 with (fail))
         go_cut [47] (fun v47 wc => ∃ (kq : Nat) (x47_14 : Bool), v47 = .bool x47_14 ∧ Aside0 (hinterlandref10_right.j2 kq l0_1 (l0_1.length : Int) x26_2 x47_14 a0_0 l0_1 l0_2 = some r) ∧ Aside0 (kq ≤ k2) ∧ Aside0 (wc.heap[gb298]? = some (.cells #[.string a0_0, (.slice (some ad300) l0_1.length c0_1), (.slice A0_2 l0_2.length c0_2)] 39 (0, 0))) ∧ Aside0 (Below w.heap.size w wc))
         case first =>
          have H := HC15.out; clear HC15; replace H := Option.bind_eq_some_iff.mp H; obtain ⟨t301, A160, H⟩ := H; have A16 := Aside0.mk A160; clear A160
          by_cases c17 : t301 = true
          ·subst c17; rw [if_pos rfl] at H
           by_cases c18 : x26_2 > 0
           ·rw [if_pos c18] at H; have c18b0 : decide (0 < x26_2) = true := decide_eq_true c18; clear c18
            (first | rw [c18b0] | (simp only [i64_w, i32_w]; rw [c18b0]) | skip)
            obtain ⟨ji19, hji19⟩ : ∃ j_ : Int, (wrap64 (x26_2 - 1)) = j_ := ⟨_, rfl⟩; replace H : (if 0 ≤ (ji19) then (if (ji19) < (l0_1.length : Int) then (hinterlandref10_right.j2 k2 l0_1 (l0_1.length : Int) x26_2 (decide ((rd l0_1 (ji19)) ≥ (rd l0_1 x26_2))) a0_0 l0_1 l0_2) else (none)) else (none)) = some r := by first | (rw [hji19] at H; exact H) | (simp only [hji19] at H ⊢; exact H)
            (try rw [hji19] at A16); have hji19w : (IntKind.i64.wrap (x26_2 - 1)) = ji19 := (i64_w _).trans hji19
            by_cases c20 : 0 ≤ (ji19)
            ·rw [if_pos c20] at H; have c20b0 : decide (0 ≤ (ji19)) = true := decide_eq_true c20; clear c20
             by_cases c21 : (ji19) < (l0_1.length : Int)
             ·rw [if_pos c21] at H; have c21b0 : decide ((ji19) < (l0_1.length : Int)) = true := decide_eq_true c21; clear c21; have H' := Aside0.mk H; clear H
              go_wp2_with (first | (go_at_call 36; (with_reducible refine (hinterlandref10_within.calls (rd l0_1 x26_2) 0 15 true _ A16.out).mono ?_); rintro e w' ⟨rfl, ⟨nd, rfl⟩⟩; (try first | exact ⟨rfl, _, World.drewN_drewN _ _ _⟩ | exact ⟨rfl, _, Eq.trans (World.drewN_drewN _ _ _) (congrArg (World.drewN _) (Nat.add_assoc _ _ _))⟩); obtain ⟨z22a, z22b, z22c, y22a, y22b, y22c⟩ := cs3_ BK298.out; have p302 : 0 ≤ ((ji19) : Int) := of_decide_eq_true tW_; have q302 : (ji19) < (l0_1.length : Int) := of_decide_eq_true tW_; obtain ⟨ad302, e302, hx302_0⟩ := Kd.at_int HR0_1.out (ji19) p302 q302; obtain rfl : ad300 = ad302 := (by injection e302); replace hx302_0 := bc_ HB hx302_0; replace p302 := eq_true p302; replace q302 := eq_true q302))
              repeat (go_quiet (first | (go_at_call 36; (with_reducible refine (hinterlandref10_within.calls (rd l0_1 x26_2) 0 15 true _ A16.out).mono ?_); rintro e w' ⟨rfl, ⟨nd, rfl⟩⟩; (try first | exact ⟨rfl, _, World.drewN_drewN _ _ _⟩ | exact ⟨rfl, _, Eq.trans (World.drewN_drewN _ _ _) (congrArg (World.drewN _) (Nat.add_assoc _ _ _))⟩); obtain ⟨z22a, z22b, z22c, y22a, y22b, y22c⟩ := cs3_ BK298.out; have p302 : 0 ≤ ((ji19) : Int) := of_decide_eq_true tW_; have q302 : (ji19) < (l0_1.length : Int) := of_decide_eq_true tW_; obtain ⟨ad302, e302, hx302_0⟩ := Kd.at_int HR0_1.out (ji19) p302 q302; obtain rfl : ad300 = ad302 := (by injection e302); replace hx302_0 := bc_ HB hx302_0; replace p302 := eq_true p302; replace q302 := eq_true q302)); try go_wp2_with (first | (go_at_call 36; (with_reducible refine (hinterlandref10_within.calls (rd l0_1 x26_2) 0 15 true _ A16.out).mono ?_); rintro e w' ⟨rfl, ⟨nd, rfl⟩⟩; (try first | exact ⟨rfl, _, World.drewN_drewN _ _ _⟩ | exact ⟨rfl, _, Eq.trans (World.drewN_drewN _ _ _) (congrArg (World.drewN _) (Nat.add_assoc _ _ _))⟩); obtain ⟨z22a, z22b, z22c, y22a, y22b, y22c⟩ := cs3_ BK298.out; have p302 : 0 ≤ ((ji19) : Int) := of_decide_eq_true tW_; have q302 : (ji19) < (l0_1.length : Int) := of_decide_eq_true tW_; obtain ⟨ad302, e302, hx302_0⟩ := Kd.at_int HR0_1.out (ji19) p302 q302; obtain rfl : ad300 = ad302 := (by injection e302); replace hx302_0 := bc_ HB hx302_0; replace p302 := eq_true p302; replace q302 := eq_true q302)))
              go_meet
              case rel => exact ⟨_, (decide ((rd l0_1 (ji19)) ≥ (rd l0_1 x26_2))), (by first | rfl | (simp; done) | (simp only [← hji19]; rw [shl_one_small _ (by assumption) (by omega)]; done) | (simp only [← hji19] <;> (first | rfl | simp)) | (simp [*]; done) | (refine congrArg (Value.int .i64) ?_; unfold wrap64; omega) | (simp only [shl_one_small _ (by assumption) (by omega)]; done) | (simp [*]; rw [shl_one_small _ (by assumption) (by omega)]; done)), H', ⟨by have := HJ1.out; have := HK2.out; first | omega | exact Nat.le_refl _⟩, ⟨dB_ BK298⟩, ⟨dL1_ HB GE298⟩⟩
             ·rw [if_neg c21] at H; exact absurd H (by simp)
            ·rw [if_neg c20] at H; exact absurd H (by simp)
           ·rw [if_neg c18] at H; have c18b0 : decide (0 < x26_2) = false := decide_eq_false c18; clear c18
            (first | rw [c18b0] | (simp only [i64_w, i32_w]; rw [c18b0]) | skip)
            have H' := Aside0.mk H; clear H
            go_wp2_with (first | (go_at_call 36; (with_reducible refine (hinterlandref10_within.calls (rd l0_1 x26_2) 0 15 true _ A16.out).mono ?_); rintro e w' ⟨rfl, ⟨nd, rfl⟩⟩; (try first | exact ⟨rfl, _, World.drewN_drewN _ _ _⟩ | exact ⟨rfl, _, Eq.trans (World.drewN_drewN _ _ _) (congrArg (World.drewN _) (Nat.add_assoc _ _ _))⟩)))
            repeat (go_quiet (first | (go_at_call 36; (with_reducible refine (hinterlandref10_within.calls (rd l0_1 x26_2) 0 15 true _ A16.out).mono ?_); rintro e w' ⟨rfl, ⟨nd, rfl⟩⟩; (try first | exact ⟨rfl, _, World.drewN_drewN _ _ _⟩ | exact ⟨rfl, _, Eq.trans (World.drewN_drewN _ _ _) (congrArg (World.drewN _) (Nat.add_assoc _ _ _))⟩))); try go_wp2_with (first | (go_at_call 36; (with_reducible refine (hinterlandref10_within.calls (rd l0_1 x26_2) 0 15 true _ A16.out).mono ?_); rintro e w' ⟨rfl, ⟨nd, rfl⟩⟩; (try first | exact ⟨rfl, _, World.drewN_drewN _ _ _⟩ | exact ⟨rfl, _, Eq.trans (World.drewN_drewN _ _ _) (congrArg (World.drewN _) (Nat.add_assoc _ _ _))⟩))))
            go_meet
            case rel => exact ⟨_, (false), tS_, H', ⟨by have := HJ1.out; have := HK2.out; first | omega | exact Nat.le_refl _⟩, ⟨dB_ BK298⟩, ⟨dL1_ HB GE298⟩⟩
          ·replace c17 := Bool.eq_false_iff.mpr c17; subst c17; rw [if_neg (show ¬ (false = true) by decide)] at H; have H' := Aside0.mk H; clear H
           go_wp2_with (first | (go_at_call 36; (with_reducible refine (hinterlandref10_within.calls (rd l0_1 x26_2) 0 15 false _ A16.out).mono ?_); rintro e w' ⟨rfl, ⟨nd, rfl⟩⟩; (try first | exact ⟨rfl, _, World.drewN_drewN _ _ _⟩ | exact ⟨rfl, _, Eq.trans (World.drewN_drewN _ _ _) (congrArg (World.drewN _) (Nat.add_assoc _ _ _))⟩)))
           repeat (go_quiet (first | (go_at_call 36; (with_reducible refine (hinterlandref10_within.calls (rd l0_1 x26_2) 0 15 false _ A16.out).mono ?_); rintro e w' ⟨rfl, ⟨nd, rfl⟩⟩; (try first | exact ⟨rfl, _, World.drewN_drewN _ _ _⟩ | exact ⟨rfl, _, Eq.trans (World.drewN_drewN _ _ _) (congrArg (World.drewN _) (Nat.add_assoc _ _ _))⟩))); try go_wp2_with (first | (go_at_call 36; (with_reducible refine (hinterlandref10_within.calls (rd l0_1 x26_2) 0 15 false _ A16.out).mono ?_); rintro e w' ⟨rfl, ⟨nd, rfl⟩⟩; (try first | exact ⟨rfl, _, World.drewN_drewN _ _ _⟩ | exact ⟨rfl, _, Eq.trans (World.drewN_drewN _ _ _) (congrArg (World.drewN _) (Nat.add_assoc _ _ _))⟩))))
           go_meet
           case rel => exact ⟨_, (true), tS_, H', ⟨by have := HJ1.out; have := HK2.out; first | omega | exact Nat.le_refl _⟩, ⟨dB_ BK298⟩, ⟨dL1_ HB GE298⟩⟩
         case rest =>
          clear HC15; (try clear c6); (try clear c10); (try clear c12); (try clear c12b0); (try clear c13); (try clear c13b0); (try clear c14); (try clear c14b0); (try clear c18); (try clear c20); (try clear c21); (try clear z11a z11b z11c y11a y11b y11c); (try clear hx300_0); (try clear p300); (try clear q300); obtain ⟨kq, x47_14, rfl, HA, HJ14, BK298, HB⟩ := hcut
          cases kq with
          | zero => exact absurd HA.out (by simp [hinterlandref10_right.j2])
          | succ kj14 =>
           have H := HA.out; clear HA; simp only [hinterlandref10_right.j2] at H
           by_cases c23 : x47_14 = true
           ·subst c23; rw [if_pos rfl] at H; obtain rfl := Option.some.inj H; go_wp2
            repeat (go_quiet (fail); try go_wp2)
            go_ret
            exact ⟨tE_, dL1_ HB GE298⟩
           ·replace c23 := Bool.eq_false_iff.mpr c23; subst c23; rw [if_neg (show ¬ (false = true) by decide)] at H; have H' := Aside0.mk H; clear H; go_wp2
            repeat (go_quiet (fail); try go_wp2)
            go_roundg kj14
            case measure => have := HJ1.out; have := HK2.out; have := HJ14.out; omega
            case rel => exact ⟨(wrap64 (x26_2 + 1)), tS_, H', ⟨by have := HJ1.out; have := HK2.out; have := HJ14.out; omega⟩, ⟨dB_ BK298⟩, ⟨dL1_ HB GE298⟩⟩
        ·rw [if_neg c14] at H; exact absurd H (by simp)
       ·rw [if_neg c13] at H; exact absurd H (by simp)
      ·rw [if_neg c12] at H; have c12b0 : decide (x26_2 < (l0_1.length : Int)) = false := decide_eq_false c12; clear c12; have H' := Aside0.mk H; clear H; obtain ⟨z24a, z24b, z24c, y24a, y24b, y24c⟩ := cs3_ BK298.out; go_wp2
       repeat (go_quiet (fail); try go_wp2)
       go_loopg [52] k2 (fun kq v52 w' => ∃ (x52_3 : Int), v52 = .int .i64 x52_3 ∧ Aside0 (hinterlandref10_right.l1 kq l0_2 (l0_2.length : Int) x52_3 a0_0 l0_1 l0_2 = some r) ∧ Aside0 (kq ≤ k2) ∧ Aside0 (w'.heap[gb298]? = some (.cells #[.string a0_0, (.slice A0_1 l0_1.length c0_1), (.slice A0_2 l0_2.length c0_2)] 39 (0, 0))) ∧ Aside0 (Below w.heap.size w w'))
       case atStart => exact ⟨(0), tS_, H', ⟨Nat.le_refl _⟩, ⟨dB_ BK298⟩, ⟨dL1_ HB GE298⟩⟩
       case round =>
        clear H'; (try clear c6); (try clear c10); (try clear c12); (try clear c12b0); (try clear c13); (try clear c14); (try clear c18); (try clear c20); (try clear c21); (try clear z11a z11b z11c y11a y11b y11c); (try clear z24a z24b z24c y24a y24b y24c); obtain ⟨x52_3, rfl, HA, HK3, BK298, HB⟩ := hrel
        cases gk with
        | zero => exact absurd HA.out (by simp [hinterlandref10_right.l1])
        | succ k3 =>
         have H := HA.out; clear HA; simp only [hinterlandref10_right.l1] at H
         by_cases c25 : x52_3 < (l0_2.length : Int)
         ·rw [if_pos c25] at H; have c25b0 : decide (x52_3 < (l0_2.length : Int)) = true := decide_eq_true c25; clear c25
          by_cases c26 : 0 ≤ x52_3
          ·rw [if_pos c26] at H; have c26b0 : decide (0 ≤ x52_3) = true := decide_eq_true c26; clear c26
           by_cases c27 : x52_3 < (l0_2.length : Int)
           ·rw [if_pos c27] at H; have c27b0 : decide (x52_3 < (l0_2.length : Int)) = true := decide_eq_true c27; clear c27; have HC28 := Aside0.mk H; clear H; have p303 : 0 ≤ (x52_3 : Int) := of_decide_eq_true tW_; have q303 : x52_3 < (l0_2.length : Int) := of_decide_eq_true tW_; obtain ⟨ad303, e303, hx303_0, hx303_1⟩ := at_T41 HR0_2.out x52_3 p303 q303; cases e303; replace hx303_0 := bc_ HB hx303_0; replace hx303_1 := bc_ HB hx303_1; replace p303 := eq_true p303; replace q303 := eq_true q303
            go_upto_region 12 with (first | ((with_reducible refine gate_dst (N := 6) rfl ?_); (try (refine gate_guard (by rfl) ?_; dsimp only)); refine bx_ (N := 6) (cs := #[.int .i64 0, .int .i64 0]) (t := 41) ?_; intro gb304 hg w29 hbox hb; have BK304 := Aside0.mk (hbox); have GW304 := Aside0.mk ((dS_ hg (dL1_ HB GE298) : w.heap.size ≤ gb304)); have GE304 := GW304; replace HB := Aside0.mk (below_step (dL1_ HB GE298) hb); have NB298_304 := nb_ hg BK298; have NB304_298 := nc_ hg BK298; replace BK298 := bk_ BK298 hb; clear hb hbox hg; have hnb30 := NB304_298.out; have hnc30 := NB298_304.out; obtain ⟨z31a, z31b, y31a, y31b⟩ := cs2_ BK304.out))
            repeat (go_quiet (first | ((with_reducible refine gate_dst (N := 6) rfl ?_); (try (refine gate_guard (by rfl) ?_; dsimp only)); refine bx_ (N := 6) (cs := #[.int .i64 0, .int .i64 0]) (t := 41) ?_; intro gb304 hg w29 hbox hb; have BK304 := Aside0.mk (hbox); have GW304 := Aside0.mk ((dS_ hg (dL1_ HB GE298) : w.heap.size ≤ gb304)); have GE304 := GW304; replace HB := Aside0.mk (below_step (dL1_ HB GE298) hb); have NB298_304 := nb_ hg BK298; have NB304_298 := nc_ hg BK298; replace BK298 := bk_ BK298 hb; clear hb hbox hg; have hnb30 := NB304_298.out; have hnc30 := NB298_304.out; obtain ⟨z31a, z31b, y31a, y31b⟩ := cs2_ BK304.out)); go_upto_region 12 with (first | ((with_reducible refine gate_dst (N := 6) rfl ?_); (try (refine gate_guard (by rfl) ?_; dsimp only)); refine bx_ (N := 6) (cs := #[.int .i64 0, .int .i64 0]) (t := 41) ?_; intro gb304 hg w29 hbox hb; have BK304 := Aside0.mk (hbox); have GW304 := Aside0.mk ((dS_ hg (dL1_ HB GE298) : w.heap.size ≤ gb304)); have GE304 := GW304; replace HB := Aside0.mk (below_step (dL1_ HB GE298) hb); have NB298_304 := nb_ hg BK298; have NB304_298 := nc_ hg BK298; replace BK298 := bk_ BK298 hb; clear hb hbox hg; have hnb30 := NB304_298.out; have hnc30 := NB298_304.out; obtain ⟨z31a, z31b, y31a, y31b⟩ := cs2_ BK304.out)))
            (try simp only [Act.put, List.setIfInBounds_toArray, List.set_cons_zero, List.set_cons_succ])
            go_cut [82] (fun v82 wc => ∃ (kq : Nat) (x82_27 : Bool), v82 = .bool x82_27 ∧ Aside0 (hinterlandref10_right.j4 kq l0_2 (l0_2.length : Int) x52_3 x82_27 a0_0 l0_1 l0_2 = some r) ∧ Aside0 (kq ≤ k3) ∧ Aside0 (wc.heap[gb298]? = some (.cells #[.string a0_0, (.slice A0_1 l0_1.length c0_1), (.slice (some ad303) l0_2.length c0_2)] 39 (0, 0))) ∧ Aside0 (wc.heap[gb304]? = some (.cells #[.int .i64 ((rd_T41 l0_2 x52_3).f0), .int .i64 ((rd_T41 l0_2 x52_3).f1)] 41 (0, 0))) ∧ Aside0 (Below w.heap.size w wc))
            case first =>
             have H := HC28.out; clear HC28; replace H := Option.bind_eq_some_iff.mp H; obtain ⟨t305, A320, H⟩ := H; have A32 := Aside0.mk A320; clear A320
             by_cases c33 : t305 = true
             ·subst c33; rw [if_pos rfl] at H; replace H := Option.bind_eq_some_iff.mp H; obtain ⟨t306, A340, H⟩ := H; have A34 := Aside0.mk A340; clear A340
              by_cases c35 : t306 = true
              ·subst c35; rw [if_pos rfl] at H
               by_cases c36 : x52_3 > 0
               ·rw [if_pos c36] at H; have c36b0 : decide (0 < x52_3) = true := decide_eq_true c36; clear c36
                (first | rw [c36b0] | (simp only [i64_w, i32_w]; rw [c36b0]) | skip)
                obtain ⟨ji37, hji37⟩ : ∃ j_ : Int, (wrap64 (x52_3 - 1)) = j_ := ⟨_, rfl⟩; replace H : (if 0 ≤ (ji37) then (if (ji37) < (l0_2.length : Int) then (hinterlandref10_right.j4 k3 l0_2 (l0_2.length : Int) x52_3 (decide (((rd_T41 l0_2 (ji37)).f0) ≥ ((rd_T41 l0_2 x52_3).f0))) a0_0 l0_1 l0_2) else (none)) else (none)) = some r := by first | (rw [hji37] at H; exact H) | (simp only [hji37] at H ⊢; exact H)
                (try rw [hji37] at A32); (try rw [hji37] at A34); have hji37w : (IntKind.i64.wrap (x52_3 - 1)) = ji37 := (i64_w _).trans hji37
                by_cases c38 : 0 ≤ (ji37)
                ·rw [if_pos c38] at H; have c38b0 : decide (0 ≤ (ji37)) = true := decide_eq_true c38; clear c38
                 by_cases c39 : (ji37) < (l0_2.length : Int)
                 ·rw [if_pos c39] at H; have c39b0 : decide ((ji37) < (l0_2.length : Int)) = true := decide_eq_true c39; clear c39; have H' := Aside0.mk H; clear H; have hnb40 := NB304_298.out; have hnc40 := NB298_304.out; obtain ⟨z41a, z41b, y41a, y41b⟩ := cs2_ BK304.out
                  go_wp2_with (first | (go_at_call 36; (with_reducible refine (hinterlandref10_within.calls ((rd_T41 l0_2 x52_3).f0) 0 15 true _ A32.out).mono ?_); rintro e w' ⟨rfl, ⟨nd, rfl⟩⟩; (try first | exact ⟨rfl, _, World.drewN_drewN _ _ _⟩ | exact ⟨rfl, _, Eq.trans (World.drewN_drewN _ _ _) (congrArg (World.drewN _) (Nat.add_assoc _ _ _))⟩)) | (go_at_call 36; (with_reducible refine (hinterlandref10_within.calls ((rd_T41 l0_2 x52_3).f1) 1 1000 true _ A34.out).mono ?_); rintro e w' ⟨rfl, ⟨nd, rfl⟩⟩; (try first | exact ⟨rfl, _, World.drewN_drewN _ _ _⟩ | exact ⟨rfl, _, Eq.trans (World.drewN_drewN _ _ _) (congrArg (World.drewN _) (Nat.add_assoc _ _ _))⟩); obtain ⟨z42a, z42b, z42c, y42a, y42b, y42c⟩ := cs3_ BK298.out; have p307 : 0 ≤ ((ji37) : Int) := of_decide_eq_true tW_; have q307 : (ji37) < (l0_2.length : Int) := of_decide_eq_true tW_; obtain ⟨ad307, e307, hx307_0, hx307_1⟩ := at_T41 HR0_2.out (ji37) p307 q307; obtain rfl : ad303 = ad307 := (by injection e307); have hn307_0 : ad303.block ≠ gb304 := Nat.ne_of_lt (Nat.lt_of_lt_of_le (by have := World.block_lt_of_cell? _ _ hx307_0; first | rwa [add_block] at this | exact this) GW304.out); have hn307_1 : ad303.block ≠ gb304 := Nat.ne_of_lt (Nat.lt_of_lt_of_le (by have := World.block_lt_of_cell? _ _ hx307_0; first | rwa [add_block] at this | exact this) GW304.out); replace hx307_0 := bc_ HB hx307_0; replace hx307_1 := bc_ HB hx307_1; replace hx307_0 := (cell_far (p := ⟨gb304, 0, none⟩) (aB_ hn307_0) (.int .i64 ((rd_T41 l0_2 x52_3).f0))).trans hx307_0; replace hx307_1 := (cell_far (p := ⟨gb304, 0, none⟩) (aB_ hn307_0) (.int .i64 ((rd_T41 l0_2 x52_3).f0))).trans hx307_1; replace hx307_0 := (cell_far (p := ⟨gb304, 1, none⟩) (aB_ hn307_1) (.int .i64 ((rd_T41 l0_2 x52_3).f1))).trans hx307_0; replace hx307_1 := (cell_far (p := ⟨gb304, 1, none⟩) (aB_ hn307_1) (.int .i64 ((rd_T41 l0_2 x52_3).f1))).trans hx307_1; (try have hy307_0 := fun (n_ : Nat) => (show ((((w29.drewN n_).setCell ⟨gb304, 0, none⟩ (.int .i64 ((rd_T41 l0_2 x52_3).f0))).setCell ⟨gb304, 1, none⟩ (.int .i64 ((rd_T41 l0_2 x52_3).f1)))).cell? _ = some _ from hx307_0)); (try have hy307_1 := fun (n_ : Nat) => (show ((((w29.drewN n_).setCell ⟨gb304, 0, none⟩ (.int .i64 ((rd_T41 l0_2 x52_3).f0))).setCell ⟨gb304, 1, none⟩ (.int .i64 ((rd_T41 l0_2 x52_3).f1)))).cell? _ = some _ from hx307_1)); clear hn307_0; clear hn307_1; replace p307 := eq_true p307; replace q307 := eq_true q307))
                  repeat (go_quiet (first | (go_at_call 36; (with_reducible refine (hinterlandref10_within.calls ((rd_T41 l0_2 x52_3).f0) 0 15 true _ A32.out).mono ?_); rintro e w' ⟨rfl, ⟨nd, rfl⟩⟩; (try first | exact ⟨rfl, _, World.drewN_drewN _ _ _⟩ | exact ⟨rfl, _, Eq.trans (World.drewN_drewN _ _ _) (congrArg (World.drewN _) (Nat.add_assoc _ _ _))⟩)) | (go_at_call 36; (with_reducible refine (hinterlandref10_within.calls ((rd_T41 l0_2 x52_3).f1) 1 1000 true _ A34.out).mono ?_); rintro e w' ⟨rfl, ⟨nd, rfl⟩⟩; (try first | exact ⟨rfl, _, World.drewN_drewN _ _ _⟩ | exact ⟨rfl, _, Eq.trans (World.drewN_drewN _ _ _) (congrArg (World.drewN _) (Nat.add_assoc _ _ _))⟩); obtain ⟨z42a, z42b, z42c, y42a, y42b, y42c⟩ := cs3_ BK298.out; have p307 : 0 ≤ ((ji37) : Int) := of_decide_eq_true tW_; have q307 : (ji37) < (l0_2.length : Int) := of_decide_eq_true tW_; obtain ⟨ad307, e307, hx307_0, hx307_1⟩ := at_T41 HR0_2.out (ji37) p307 q307; obtain rfl : ad303 = ad307 := (by injection e307); have hn307_0 : ad303.block ≠ gb304 := Nat.ne_of_lt (Nat.lt_of_lt_of_le (by have := World.block_lt_of_cell? _ _ hx307_0; first | rwa [add_block] at this | exact this) GW304.out); have hn307_1 : ad303.block ≠ gb304 := Nat.ne_of_lt (Nat.lt_of_lt_of_le (by have := World.block_lt_of_cell? _ _ hx307_0; first | rwa [add_block] at this | exact this) GW304.out); replace hx307_0 := bc_ HB hx307_0; replace hx307_1 := bc_ HB hx307_1; replace hx307_0 := (cell_far (p := ⟨gb304, 0, none⟩) (aB_ hn307_0) (.int .i64 ((rd_T41 l0_2 x52_3).f0))).trans hx307_0; replace hx307_1 := (cell_far (p := ⟨gb304, 0, none⟩) (aB_ hn307_0) (.int .i64 ((rd_T41 l0_2 x52_3).f0))).trans hx307_1; replace hx307_0 := (cell_far (p := ⟨gb304, 1, none⟩) (aB_ hn307_1) (.int .i64 ((rd_T41 l0_2 x52_3).f1))).trans hx307_0; replace hx307_1 := (cell_far (p := ⟨gb304, 1, none⟩) (aB_ hn307_1) (.int .i64 ((rd_T41 l0_2 x52_3).f1))).trans hx307_1; (try have hy307_0 := fun (n_ : Nat) => (show ((((w29.drewN n_).setCell ⟨gb304, 0, none⟩ (.int .i64 ((rd_T41 l0_2 x52_3).f0))).setCell ⟨gb304, 1, none⟩ (.int .i64 ((rd_T41 l0_2 x52_3).f1)))).cell? _ = some _ from hx307_0)); (try have hy307_1 := fun (n_ : Nat) => (show ((((w29.drewN n_).setCell ⟨gb304, 0, none⟩ (.int .i64 ((rd_T41 l0_2 x52_3).f0))).setCell ⟨gb304, 1, none⟩ (.int .i64 ((rd_T41 l0_2 x52_3).f1)))).cell? _ = some _ from hx307_1)); clear hn307_0; clear hn307_1; replace p307 := eq_true p307; replace q307 := eq_true q307)); try go_wp2_with (first | (go_at_call 36; (with_reducible refine (hinterlandref10_within.calls ((rd_T41 l0_2 x52_3).f0) 0 15 true _ A32.out).mono ?_); rintro e w' ⟨rfl, ⟨nd, rfl⟩⟩; (try first | exact ⟨rfl, _, World.drewN_drewN _ _ _⟩ | exact ⟨rfl, _, Eq.trans (World.drewN_drewN _ _ _) (congrArg (World.drewN _) (Nat.add_assoc _ _ _))⟩)) | (go_at_call 36; (with_reducible refine (hinterlandref10_within.calls ((rd_T41 l0_2 x52_3).f1) 1 1000 true _ A34.out).mono ?_); rintro e w' ⟨rfl, ⟨nd, rfl⟩⟩; (try first | exact ⟨rfl, _, World.drewN_drewN _ _ _⟩ | exact ⟨rfl, _, Eq.trans (World.drewN_drewN _ _ _) (congrArg (World.drewN _) (Nat.add_assoc _ _ _))⟩); obtain ⟨z42a, z42b, z42c, y42a, y42b, y42c⟩ := cs3_ BK298.out; have p307 : 0 ≤ ((ji37) : Int) := of_decide_eq_true tW_; have q307 : (ji37) < (l0_2.length : Int) := of_decide_eq_true tW_; obtain ⟨ad307, e307, hx307_0, hx307_1⟩ := at_T41 HR0_2.out (ji37) p307 q307; obtain rfl : ad303 = ad307 := (by injection e307); have hn307_0 : ad303.block ≠ gb304 := Nat.ne_of_lt (Nat.lt_of_lt_of_le (by have := World.block_lt_of_cell? _ _ hx307_0; first | rwa [add_block] at this | exact this) GW304.out); have hn307_1 : ad303.block ≠ gb304 := Nat.ne_of_lt (Nat.lt_of_lt_of_le (by have := World.block_lt_of_cell? _ _ hx307_0; first | rwa [add_block] at this | exact this) GW304.out); replace hx307_0 := bc_ HB hx307_0; replace hx307_1 := bc_ HB hx307_1; replace hx307_0 := (cell_far (p := ⟨gb304, 0, none⟩) (aB_ hn307_0) (.int .i64 ((rd_T41 l0_2 x52_3).f0))).trans hx307_0; replace hx307_1 := (cell_far (p := ⟨gb304, 0, none⟩) (aB_ hn307_0) (.int .i64 ((rd_T41 l0_2 x52_3).f0))).trans hx307_1; replace hx307_0 := (cell_far (p := ⟨gb304, 1, none⟩) (aB_ hn307_1) (.int .i64 ((rd_T41 l0_2 x52_3).f1))).trans hx307_0; replace hx307_1 := (cell_far (p := ⟨gb304, 1, none⟩) (aB_ hn307_1) (.int .i64 ((rd_T41 l0_2 x52_3).f1))).trans hx307_1; (try have hy307_0 := fun (n_ : Nat) => (show ((((w29.drewN n_).setCell ⟨gb304, 0, none⟩ (.int .i64 ((rd_T41 l0_2 x52_3).f0))).setCell ⟨gb304, 1, none⟩ (.int .i64 ((rd_T41 l0_2 x52_3).f1)))).cell? _ = some _ from hx307_0)); (try have hy307_1 := fun (n_ : Nat) => (show ((((w29.drewN n_).setCell ⟨gb304, 0, none⟩ (.int .i64 ((rd_T41 l0_2 x52_3).f0))).setCell ⟨gb304, 1, none⟩ (.int .i64 ((rd_T41 l0_2 x52_3).f1)))).cell? _ = some _ from hx307_1)); clear hn307_0; clear hn307_1; replace p307 := eq_true p307; replace q307 := eq_true q307)))
                  go_meet
                  case rel => exact ⟨_, (decide (((rd_T41 l0_2 (ji37)).f0) ≥ ((rd_T41 l0_2 x52_3).f0))), (by first | rfl | (simp; done) | (simp only [← hji37]; rw [shl_one_small _ (by assumption) (by omega)]; done) | (simp only [← hji37] <;> (first | rfl | simp)) | (simp [*]; done) | (refine congrArg (Value.int .i64) ?_; unfold wrap64; omega) | (simp only [shl_one_small _ (by assumption) (by omega)]; done) | (simp [*]; rw [shl_one_small _ (by assumption) (by omega)]; done)), H', ⟨by have := HJ1.out; have := HK2.out; have := HK3.out; first | omega | exact Nat.le_refl _⟩, ⟨bz_ BK298⟩, ⟨bz_ BK304⟩, ⟨dL2_ HB GE298 GE304⟩⟩
                 ·rw [if_neg c39] at H; exact absurd H (by simp)
                ·rw [if_neg c38] at H; exact absurd H (by simp)
               ·rw [if_neg c36] at H; have c36b0 : decide (0 < x52_3) = false := decide_eq_false c36; clear c36
                (first | rw [c36b0] | (simp only [i64_w, i32_w]; rw [c36b0]) | skip)
                have H' := Aside0.mk H; clear H; have hnb43 := NB304_298.out; have hnc43 := NB298_304.out; obtain ⟨z44a, z44b, y44a, y44b⟩ := cs2_ BK304.out
                go_wp2_with (first | (go_at_call 36; (with_reducible refine (hinterlandref10_within.calls ((rd_T41 l0_2 x52_3).f0) 0 15 true _ A32.out).mono ?_); rintro e w' ⟨rfl, ⟨nd, rfl⟩⟩; (try first | exact ⟨rfl, _, World.drewN_drewN _ _ _⟩ | exact ⟨rfl, _, Eq.trans (World.drewN_drewN _ _ _) (congrArg (World.drewN _) (Nat.add_assoc _ _ _))⟩)) | (go_at_call 36; (with_reducible refine (hinterlandref10_within.calls ((rd_T41 l0_2 x52_3).f1) 1 1000 true _ A34.out).mono ?_); rintro e w' ⟨rfl, ⟨nd, rfl⟩⟩; (try first | exact ⟨rfl, _, World.drewN_drewN _ _ _⟩ | exact ⟨rfl, _, Eq.trans (World.drewN_drewN _ _ _) (congrArg (World.drewN _) (Nat.add_assoc _ _ _))⟩)))
                repeat (go_quiet (first | (go_at_call 36; (with_reducible refine (hinterlandref10_within.calls ((rd_T41 l0_2 x52_3).f0) 0 15 true _ A32.out).mono ?_); rintro e w' ⟨rfl, ⟨nd, rfl⟩⟩; (try first | exact ⟨rfl, _, World.drewN_drewN _ _ _⟩ | exact ⟨rfl, _, Eq.trans (World.drewN_drewN _ _ _) (congrArg (World.drewN _) (Nat.add_assoc _ _ _))⟩)) | (go_at_call 36; (with_reducible refine (hinterlandref10_within.calls ((rd_T41 l0_2 x52_3).f1) 1 1000 true _ A34.out).mono ?_); rintro e w' ⟨rfl, ⟨nd, rfl⟩⟩; (try first | exact ⟨rfl, _, World.drewN_drewN _ _ _⟩ | exact ⟨rfl, _, Eq.trans (World.drewN_drewN _ _ _) (congrArg (World.drewN _) (Nat.add_assoc _ _ _))⟩))); try go_wp2_with (first | (go_at_call 36; (with_reducible refine (hinterlandref10_within.calls ((rd_T41 l0_2 x52_3).f0) 0 15 true _ A32.out).mono ?_); rintro e w' ⟨rfl, ⟨nd, rfl⟩⟩; (try first | exact ⟨rfl, _, World.drewN_drewN _ _ _⟩ | exact ⟨rfl, _, Eq.trans (World.drewN_drewN _ _ _) (congrArg (World.drewN _) (Nat.add_assoc _ _ _))⟩)) | (go_at_call 36; (with_reducible refine (hinterlandref10_within.calls ((rd_T41 l0_2 x52_3).f1) 1 1000 true _ A34.out).mono ?_); rintro e w' ⟨rfl, ⟨nd, rfl⟩⟩; (try first | exact ⟨rfl, _, World.drewN_drewN _ _ _⟩ | exact ⟨rfl, _, Eq.trans (World.drewN_drewN _ _ _) (congrArg (World.drewN _) (Nat.add_assoc _ _ _))⟩))))
                go_meet
                case rel => exact ⟨_, (false), tS_, H', ⟨by have := HJ1.out; have := HK2.out; have := HK3.out; first | omega | exact Nat.le_refl _⟩, ⟨bz_ BK298⟩, ⟨bz_ BK304⟩, ⟨dL2_ HB GE298 GE304⟩⟩
              ·replace c35 := Bool.eq_false_iff.mpr c35; subst c35; rw [if_neg (show ¬ (false = true) by decide)] at H; have H' := Aside0.mk H; clear H; have hnb45 := NB304_298.out; have hnc45 := NB298_304.out; obtain ⟨z46a, z46b, y46a, y46b⟩ := cs2_ BK304.out
               go_wp2_with (first | (go_at_call 36; (with_reducible refine (hinterlandref10_within.calls ((rd_T41 l0_2 x52_3).f0) 0 15 true _ A32.out).mono ?_); rintro e w' ⟨rfl, ⟨nd, rfl⟩⟩; (try first | exact ⟨rfl, _, World.drewN_drewN _ _ _⟩ | exact ⟨rfl, _, Eq.trans (World.drewN_drewN _ _ _) (congrArg (World.drewN _) (Nat.add_assoc _ _ _))⟩)) | (go_at_call 36; (with_reducible refine (hinterlandref10_within.calls ((rd_T41 l0_2 x52_3).f1) 1 1000 false _ A34.out).mono ?_); rintro e w' ⟨rfl, ⟨nd, rfl⟩⟩; (try first | exact ⟨rfl, _, World.drewN_drewN _ _ _⟩ | exact ⟨rfl, _, Eq.trans (World.drewN_drewN _ _ _) (congrArg (World.drewN _) (Nat.add_assoc _ _ _))⟩)))
               repeat (go_quiet (first | (go_at_call 36; (with_reducible refine (hinterlandref10_within.calls ((rd_T41 l0_2 x52_3).f0) 0 15 true _ A32.out).mono ?_); rintro e w' ⟨rfl, ⟨nd, rfl⟩⟩; (try first | exact ⟨rfl, _, World.drewN_drewN _ _ _⟩ | exact ⟨rfl, _, Eq.trans (World.drewN_drewN _ _ _) (congrArg (World.drewN _) (Nat.add_assoc _ _ _))⟩)) | (go_at_call 36; (with_reducible refine (hinterlandref10_within.calls ((rd_T41 l0_2 x52_3).f1) 1 1000 false _ A34.out).mono ?_); rintro e w' ⟨rfl, ⟨nd, rfl⟩⟩; (try first | exact ⟨rfl, _, World.drewN_drewN _ _ _⟩ | exact ⟨rfl, _, Eq.trans (World.drewN_drewN _ _ _) (congrArg (World.drewN _) (Nat.add_assoc _ _ _))⟩))); try go_wp2_with (first | (go_at_call 36; (with_reducible refine (hinterlandref10_within.calls ((rd_T41 l0_2 x52_3).f0) 0 15 true _ A32.out).mono ?_); rintro e w' ⟨rfl, ⟨nd, rfl⟩⟩; (try first | exact ⟨rfl, _, World.drewN_drewN _ _ _⟩ | exact ⟨rfl, _, Eq.trans (World.drewN_drewN _ _ _) (congrArg (World.drewN _) (Nat.add_assoc _ _ _))⟩)) | (go_at_call 36; (with_reducible refine (hinterlandref10_within.calls ((rd_T41 l0_2 x52_3).f1) 1 1000 false _ A34.out).mono ?_); rintro e w' ⟨rfl, ⟨nd, rfl⟩⟩; (try first | exact ⟨rfl, _, World.drewN_drewN _ _ _⟩ | exact ⟨rfl, _, Eq.trans (World.drewN_drewN _ _ _) (congrArg (World.drewN _) (Nat.add_assoc _ _ _))⟩))))
               go_meet
               case rel => exact ⟨_, (true), tS_, H', ⟨by have := HJ1.out; have := HK2.out; have := HK3.out; first | omega | exact Nat.le_refl _⟩, ⟨bz_ BK298⟩, ⟨bz_ BK304⟩, ⟨dL2_ HB GE298 GE304⟩⟩
             ·replace c33 := Bool.eq_false_iff.mpr c33; subst c33; rw [if_neg (show ¬ (false = true) by decide)] at H; have H' := Aside0.mk H; clear H; have hnb47 := NB304_298.out; have hnc47 := NB298_304.out; obtain ⟨z48a, z48b, y48a, y48b⟩ := cs2_ BK304.out
              go_wp2_with (first | (go_at_call 36; (with_reducible refine (hinterlandref10_within.calls ((rd_T41 l0_2 x52_3).f0) 0 15 false _ A32.out).mono ?_); rintro e w' ⟨rfl, ⟨nd, rfl⟩⟩; (try first | exact ⟨rfl, _, World.drewN_drewN _ _ _⟩ | exact ⟨rfl, _, Eq.trans (World.drewN_drewN _ _ _) (congrArg (World.drewN _) (Nat.add_assoc _ _ _))⟩)))
              repeat (go_quiet (first | (go_at_call 36; (with_reducible refine (hinterlandref10_within.calls ((rd_T41 l0_2 x52_3).f0) 0 15 false _ A32.out).mono ?_); rintro e w' ⟨rfl, ⟨nd, rfl⟩⟩; (try first | exact ⟨rfl, _, World.drewN_drewN _ _ _⟩ | exact ⟨rfl, _, Eq.trans (World.drewN_drewN _ _ _) (congrArg (World.drewN _) (Nat.add_assoc _ _ _))⟩))); try go_wp2_with (first | (go_at_call 36; (with_reducible refine (hinterlandref10_within.calls ((rd_T41 l0_2 x52_3).f0) 0 15 false _ A32.out).mono ?_); rintro e w' ⟨rfl, ⟨nd, rfl⟩⟩; (try first | exact ⟨rfl, _, World.drewN_drewN _ _ _⟩ | exact ⟨rfl, _, Eq.trans (World.drewN_drewN _ _ _) (congrArg (World.drewN _) (Nat.add_assoc _ _ _))⟩))))
              go_meet
              case rel => exact ⟨_, (true), tS_, H', ⟨by have := HJ1.out; have := HK2.out; have := HK3.out; first | omega | exact Nat.le_refl _⟩, ⟨bz_ BK298⟩, ⟨bz_ BK304⟩, ⟨dL2_ HB GE298 GE304⟩⟩
            case rest =>
             clear HC28; (try clear c6); (try clear c10); (try clear c12); (try clear c12b0); (try clear c13); (try clear c14); (try clear c18); (try clear c20); (try clear c21); (try clear c25); (try clear c25b0); (try clear c26); (try clear c26b0); (try clear c27); (try clear c27b0); (try clear c36); (try clear c38); (try clear c39); (try clear z11a z11b z11c y11a y11b y11c); (try clear z24a z24b z24c y24a y24b y24c); (try clear z31a z31b y31a y31b); (try clear hx303_0); (try clear hx303_1); (try clear p303); (try clear q303); obtain ⟨kq, x82_27, rfl, HA, HJ27, BK298, BK304, HB⟩ := hcut
             cases kq with
             | zero => exact absurd HA.out (by simp [hinterlandref10_right.j4])
             | succ kj27 =>
              have H := HA.out; clear HA; simp only [hinterlandref10_right.j4] at H
              by_cases c49 : x82_27 = true
              ·subst c49; rw [if_pos rfl] at H; obtain rfl := Option.some.inj H; go_wp2
               repeat (go_quiet (fail); try go_wp2)
               go_ret
               exact ⟨tE_, dL2_ HB GE298 GE304⟩
              ·replace c49 := Bool.eq_false_iff.mpr c49; subst c49; rw [if_neg (show ¬ (false = true) by decide)] at H; have H' := Aside0.mk H; clear H; go_wp2
               repeat (go_quiet (fail); try go_wp2)
               go_roundg kj27
               case measure => have := HJ1.out; have := HK2.out; have := HK3.out; have := HJ27.out; omega
               case rel => exact ⟨(wrap64 (x52_3 + 1)), tS_, H', ⟨by have := HJ1.out; have := HK2.out; have := HK3.out; have := HJ27.out; omega⟩, ⟨dB_ BK298⟩, ⟨dL2_ HB GE298 GE304⟩⟩
           ·rw [if_neg c27] at H; exact absurd H (by simp)
          ·rw [if_neg c26] at H; exact absurd H (by simp)
         ·rw [if_neg c25] at H; have c25b0 : decide (x52_3 < (l0_2.length : Int)) = false := decide_eq_false c25; clear c25; obtain rfl := Option.some.inj H; go_wp2
          repeat (go_quiet (fail); try go_wp2)
          go_ret
          exact ⟨tE_, dL1_ HB GE298⟩

end Go.Proofs.Ytnkgelnkoljgdaa.Q
