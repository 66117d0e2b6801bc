-- PRINTED by print.py out of the translation. Not trusted: Lean checks it.
import Derived.Test.YtnkgelnkoljgdaaPrs
import Derived.Test.YtnkgelnkoljgdaaQ0
import Derived.Test.YtnkgelnkoljgdaaQ2
namespace Go.Proofs.Ytnkgelnkoljgdaa.Q
open Go.RowKit Go.Proofs.YtnkgelnkoljgdaaPrs Go.Proofs.YtnkgelnkoljgdaaOwn Go.Proofs.YtnkgelnkoljgdaaW.PrintWords Go.Proofs.YtnkgelnkoljgdaaW.PrintLast Go.Proofs.YtnkgelnkoljgdaaW.PrintMore
attribute [local go_sem] max2_int min2_int max_two min_two max_three min_three max_four min_four   -- for this text's walks alone
set_option linter.unusedVariables false
set_option linter.unusedSimpArgs false

/-! ### plant_kind: function 47 -/
mutual
def plant_kind.j0 : Nat → Bool → ByteArray → List Int → List (S41) → Option (Bool)
  | 0, _, _, _, _ => none
  | k + 1, x22, x105000, x105001, x105002 => if x22 = true then (some false) else (plant_kind.l0 k x105001 (x105001.length : Int) 0 x105000 x105001 x105002)
def plant_kind.l0 : Nat → List Int → Int → Int → ByteArray → List Int → List (S41) → Option (Bool)
  | 0, _, _, _, _, _, _ => none
  | k + 1, x24, x25, x26, x105000, x105001, x105002 => if x26 < x25 then (if 0 ≤ x26 then (if x26 < (x24.length : Int) then (if (rd x24 x26) < 0 then (plant_kind.j2 k x24 x25 x26 true x105000 x105001 x105002) else (if (rd x24 x26) ≥ 16 then (plant_kind.j2 k x24 x25 x26 true x105000 x105001 x105002) else (if x26 > 0 then (if 0 ≤ (wrap64 (x26 - 1)) then (if (wrap64 (x26 - 1)) < (x105001.length : Int) then (plant_kind.j2 k x24 x25 x26 (decide ((rd x24 x26) ≤ (rd x105001 (wrap64 (x26 - 1))))) x105000 x105001 x105002) else (none)) else (none)) else (plant_kind.j2 k x24 x25 x26 false x105000 x105001 x105002)))) else (none)) else (none)) else (plant_kind.l1 k x105002 (x105002.length : Int) 0 x105000 x105001 x105002)
def plant_kind.j2 : Nat → List Int → Int → Int → Bool → ByteArray → List Int → List (S41) → Option (Bool)
  | 0, _, _, _, _, _, _, _ => none
  | k + 1, x24, x25, x26, x50, x105000, x105001, x105002 => if x50 = true then (some false) else (plant_kind.l0 k x24 x25 (wrap64 (x26 + 1)) x105000 x105001 x105002)
def plant_kind.l1 : Nat → List (S41) → Int → Int → ByteArray → List Int → List (S41) → Option (Bool)
  | 0, _, _, _, _, _, _ => none
  | k + 1, x53, x54, x55, x105000, x105001, x105002 => if x55 < x54 then (if 0 ≤ x55 then (if x55 < (x53.length : Int) then (if ((rd_T41 x53 x55).f0) < 0 then (plant_kind.j4 k x53 x54 x55 true x105000 x105001 x105002) else (if ((rd_T41 x53 x55).f0) ≥ 16 then (plant_kind.j4 k x53 x54 x55 true x105000 x105001 x105002) else (if ((rd_T41 x53 x55).f1) < 1 then (plant_kind.j4 k x53 x54 x55 true x105000 x105001 x105002) else (if ((rd_T41 x53 x55).f1) > 1000 then (plant_kind.j4 k x53 x54 x55 true x105000 x105001 x105002) else (if x55 > 0 then (if 0 ≤ (wrap64 (x55 - 1)) then (if (wrap64 (x55 - 1)) < (x105002.length : Int) then (plant_kind.j4 k x53 x54 x55 (decide (((rd_T41 x53 x55).f0) ≤ ((rd_T41 x105002 (wrap64 (x55 - 1))).f0))) x105000 x105001 x105002) else (none)) else (none)) else (plant_kind.j4 k x53 x54 x55 false x105000 x105001 x105002)))))) else (none)) else (none)) else (some true)
def plant_kind.j4 : Nat → List (S41) → Int → Int → Bool → ByteArray → List Int → List (S41) → Option (Bool)
  | 0, _, _, _, _, _, _, _ => none
  | k + 1, x53, x54, x55, x93, x105000, x105001, x105002 => if x93 = true then (some false) else (plant_kind.l1 k x53 x54 (wrap64 (x55 + 1)) x105000 x105001 x105002)
end
def plant_kind.f (k : Nat) (a0_0 : ByteArray) (l0_1 : List Int) (l0_2 : List (S41)) : Option (Bool) := (plant_named.f k a0_0).bind fun t105 => (if t105 = true then (if (l0_1.length : Int) > 4 then (plant_kind.j0 k true a0_0 l0_1 l0_2) else (plant_kind.j0 k (decide ((l0_2.length : Int) > 4)) a0_0 l0_1 l0_2)) else (plant_kind.j0 k true a0_0 l0_1 l0_2))
theorem plant_kind.mono_l : ∀ k, (∀ y0 y1 y2 y3, LeO (plant_kind.j0 k y0 y1 y2 y3) (plant_kind.j0 (k + 1) y0 y1 y2 y3)) ∧ (∀ y0 y1 y2 y3 y4 y5, LeO (plant_kind.l0 k y0 y1 y2 y3 y4 y5) (plant_kind.l0 (k + 1) y0 y1 y2 y3 y4 y5)) ∧ (∀ y0 y1 y2 y3 y4 y5 y6, LeO (plant_kind.j2 k y0 y1 y2 y3 y4 y5 y6) (plant_kind.j2 (k + 1) y0 y1 y2 y3 y4 y5 y6)) ∧ (∀ y0 y1 y2 y3 y4 y5, LeO (plant_kind.l1 k y0 y1 y2 y3 y4 y5) (plant_kind.l1 (k + 1) y0 y1 y2 y3 y4 y5)) ∧ (∀ y0 y1 y2 y3 y4 y5 y6, LeO (plant_kind.j4 k y0 y1 y2 y3 y4 y5 y6) (plant_kind.j4 (k + 1) y0 y1 y2 y3 y4 y5 y6))
  | 0 => ⟨fun _ _ _ _ r h => by simp [plant_kind.j0] at h, fun _ _ _ _ _ _ r h => by simp [plant_kind.l0] at h, fun _ _ _ _ _ _ _ r h => by simp [plant_kind.j2] at h, fun _ _ _ _ _ _ r h => by simp [plant_kind.l1] at h, fun _ _ _ _ _ _ _ r h => by simp [plant_kind.j4] at h⟩
  | k + 1 => by
    obtain ⟨ih0, ih1, ih2, ih3, ih4⟩ := plant_kind.mono_l k; refine ⟨?_, ?_, ?_, ?_, ?_⟩
    · intro y0 y1 y2 y3
      unfold plant_kind.j0
      repeat' first
      | (with_reducible first | apply ih0 | apply ih1 | apply ih2 | apply ih3 | apply ih4 | apply plant_named.mono | exact LeO.refl _ | exact LeO.none _ | refine LeO.ite ?_ ?_ | refine LeO.bind ?_ (fun _ => ?_))
    · intro y0 y1 y2 y3 y4 y5
      unfold plant_kind.l0
      repeat' first
      | (with_reducible first | apply ih0 | apply ih1 | apply ih2 | apply ih3 | apply ih4 | apply plant_named.mono | exact LeO.refl _ | exact LeO.none _ | refine LeO.ite ?_ ?_ | refine LeO.bind ?_ (fun _ => ?_))
    · intro y0 y1 y2 y3 y4 y5 y6
      unfold plant_kind.j2
      repeat' first
      | (with_reducible first | apply ih0 | apply ih1 | apply ih2 | apply ih3 | apply ih4 | apply plant_named.mono | exact LeO.refl _ | exact LeO.none _ | refine LeO.ite ?_ ?_ | refine LeO.bind ?_ (fun _ => ?_))
    · intro y0 y1 y2 y3 y4 y5
      unfold plant_kind.l1
      repeat' first
      | (with_reducible first | apply ih0 | apply ih1 | apply ih2 | apply ih3 | apply ih4 | apply plant_named.mono | exact LeO.refl _ | exact LeO.none _ | refine LeO.ite ?_ ?_ | refine LeO.bind ?_ (fun _ => ?_))
    · intro y0 y1 y2 y3 y4 y5 y6
      unfold plant_kind.j4
      repeat' first
      | (with_reducible first | apply ih0 | apply ih1 | apply ih2 | apply ih3 | apply ih4 | apply plant_named.mono | exact LeO.refl _ | exact LeO.none _ | refine LeO.ite ?_ ?_ | refine LeO.bind ?_ (fun _ => ?_))
theorem plant_kind.mono : ∀ a0 a1 a2 k, LeO (plant_kind.f k a0 a1 a2) (plant_kind.f (k + 1) a0 a1 a2) := by
  intro a0 a1 a2 k; obtain ⟨ih0, ih1, ih2, ih3, ih4⟩ := plant_kind.mono_l k
  unfold plant_kind.f
  repeat' first
      | (with_reducible first | apply ih0 | apply ih1 | apply ih2 | apply ih3 | apply ih4 | apply plant_named.mono | exact LeO.refl _ | exact LeO.none _ | refine LeO.ite ?_ ?_ | refine LeO.bind ?_ (fun _ => ?_))
set_option maxHeartbeats 8000000 in
set_option maxRecDepth 100000 in
theorem plant_kind.calls (k : Nat) (a0_0 : ByteArray) (A0_1 : Option Addr) (c0_1 : Nat) (l0_1 : List Int) (A0_2 : Option Addr) (c0_2 : Nat) (l0_2 : List (S41)) (r : Bool) (w : World) (hr0_1 : Kd.C (Kd.int .i64) w A0_1 l0_1.length l0_1) (hc0_1 : l0_1.length ≤ c0_1) (hr0_2 : Kd.C k41 w A0_2 l0_2.length l0_2) (hc0_2 : l0_2.length ≤ c0_2) (h : plant_kind.f k a0_0 l0_1 l0_2 = some r) :
    Calls Try.prog 47 #[.agg #[.string a0_0, .slice A0_1 l0_1.length c0_1, .slice A0_2 l0_2.length c0_2]] w fun e w' => e = .returned (.bool r) ∧ Below w.heap.size w w' := by
 have hu39 := Try.underlying39; have hu41 := Try.underlying41; have HR0_1 := Aside0.mk hr0_1; have HC0_1 := Aside0.mk hc0_1; clear hr0_1 hc0_1; have HR0_2 := Aside0.mk hr0_2; have HC0_2 := Aside0.mk hc0_2; clear hr0_2 hc0_2; have HB := Aside0.mk (Below.refl w.heap.size w); have H : ((plant_named.f k a0_0).bind fun t105 => (if t105 = true then (if (l0_1.length : Int) > 4 then (plant_kind.j0 k true a0_0 l0_1 l0_2) else (plant_kind.j0 k (decide ((l0_2.length : Int) > 4)) a0_0 l0_1 l0_2)) else (plant_kind.j0 k true a0_0 l0_1 l0_2))) = some r := h; clear h; have HC2 := Aside0.mk H; clear H
 go_enter Try.func47, Try.ntmps47
 go_upto_region 1 with (first | ((with_reducible refine gate_dst (N := 1) rfl ?_); (try (refine gate_guard (by rfl) ?_; dsimp only)); refine bx_ (N := 1) (cs := #[.string a0_0, .slice A0_1 l0_1.length c0_1, .slice A0_2 l0_2.length c0_2]) (t := 39) ?_; intro gb104 hg w3 hbox hb; have BK104 := Aside0.mk (hbox); have GW104 := Aside0.mk ((dS_ hg (dL_ HB) : w.heap.size ≤ gb104)); have GE104 := GW104; replace HB := Aside0.mk (below_step (dL_ HB) hb); clear hb hbox hg))
 repeat (go_quiet (first | ((with_reducible refine gate_dst (N := 1) rfl ?_); (try (refine gate_guard (by rfl) ?_; dsimp only)); refine bx_ (N := 1) (cs := #[.string a0_0, .slice A0_1 l0_1.length c0_1, .slice A0_2 l0_2.length c0_2]) (t := 39) ?_; intro gb104 hg w3 hbox hb; have BK104 := Aside0.mk (hbox); have GW104 := Aside0.mk ((dS_ hg (dL_ HB) : w.heap.size ≤ gb104)); have GE104 := GW104; replace HB := Aside0.mk (below_step (dL_ HB) hb); clear hb hbox hg)); go_upto_region 1 with (first | ((with_reducible refine gate_dst (N := 1) rfl ?_); (try (refine gate_guard (by rfl) ?_; dsimp only)); refine bx_ (N := 1) (cs := #[.string a0_0, .slice A0_1 l0_1.length c0_1, .slice A0_2 l0_2.length c0_2]) (t := 39) ?_; intro gb104 hg w3 hbox hb; have BK104 := Aside0.mk (hbox); have GW104 := Aside0.mk ((dS_ hg (dL_ HB) : w.heap.size ≤ gb104)); have GE104 := GW104; replace HB := Aside0.mk (below_step (dL_ HB) hb); clear hb hbox hg)))
 (try simp only [Act.put, List.setIfInBounds_toArray, List.set_cons_zero, List.set_cons_succ])
 go_cut [22] (fun v22 wc => ∃ (kq : Nat) (x22_1 : Bool), v22 = .bool x22_1 ∧ Aside0 (plant_kind.j0 kq x22_1 a0_0 l0_1 l0_2 = some r) ∧ Aside0 (kq ≤ k) ∧ Aside0 (wc.heap[gb104]? = some (.cells #[.string a0_0, (.slice A0_1 l0_1.length c0_1), (.slice A0_2 l0_2.length c0_2)] 39 (0, 0))) ∧ Aside0 (Below w.heap.size w wc))
 case first =>
  have H := HC2.out; clear HC2; replace H := Option.bind_eq_some_iff.mp H; obtain ⟨t105, A40, H⟩ := H; have A4 := Aside0.mk A40; clear A40
  by_cases c5 : t105 = true
  ·subst c5; rw [if_pos rfl] at H
   by_cases c6 : (l0_1.length : Int) > 4
   ·rw [if_pos c6] at H; have c6b0 : decide (4 < (l0_1.length : Int)) = true := decide_eq_true c6; have c6b1 : decide (4 < l0_1.length) = true := decide_eq_true (by omega); clear c6
    (first | rw [c6b0] | (simp only [i64_w, i32_w]; rw [c6b0]) | skip)
    have H' := Aside0.mk H; clear H; obtain ⟨z7a, z7b, z7c, y7a, y7b, y7c⟩ := cs3_ BK104.out
    go_wp2_with (first | (go_at_call 52; (with_reducible refine (plant_named.calls k a0_0 true _ A4.out).mono ?_); rintro e w' ⟨rfl, ⟨nd, rfl⟩⟩; (try first | exact ⟨rfl, _, World.drewN_drewN _ _ _⟩ | exact ⟨rfl, _, Eq.trans (World.drewN_drewN _ _ _) (congrArg (World.drewN _) (Nat.add_assoc _ _ _))⟩)))
    repeat (go_quiet (first | (go_at_call 52; (with_reducible refine (plant_named.calls k a0_0 true _ A4.out).mono ?_); rintro e w' ⟨rfl, ⟨nd, rfl⟩⟩; (try first | exact ⟨rfl, _, World.drewN_drewN _ _ _⟩ | exact ⟨rfl, _, Eq.trans (World.drewN_drewN _ _ _) (congrArg (World.drewN _) (Nat.add_assoc _ _ _))⟩))); try go_wp2_with (first | (go_at_call 52; (with_reducible refine (plant_named.calls k a0_0 true _ A4.out).mono ?_); rintro e w' ⟨rfl, ⟨nd, rfl⟩⟩; (try first | exact ⟨rfl, _, World.drewN_drewN _ _ _⟩ | exact ⟨rfl, _, Eq.trans (World.drewN_drewN _ _ _) (congrArg (World.drewN _) (Nat.add_assoc _ _ _))⟩))))
    go_meet
    case rel => exact ⟨_, (true), tS_, H', ⟨by first | omega | exact Nat.le_refl _⟩, ⟨dB_ BK104⟩, ⟨dL1_ HB GE104⟩⟩
   ·rw [if_neg c6] at H; have c6b0 : decide (4 < (l0_1.length : Int)) = false := decide_eq_false c6; have c6b1 : decide (4 < l0_1.length) = false := decide_eq_false (by omega); clear c6
    (first | rw [c6b0] | (simp only [i64_w, i32_w]; rw [c6b0]) | skip)
    have H' := Aside0.mk H; clear H; obtain ⟨z8a, z8b, z8c, y8a, y8b, y8c⟩ := cs3_ BK104.out
    go_wp2_with (first | (go_at_call 52; (with_reducible refine (plant_named.calls k a0_0 true _ A4.out).mono ?_); rintro e w' ⟨rfl, ⟨nd, rfl⟩⟩; (try first | exact ⟨rfl, _, World.drewN_drewN _ _ _⟩ | exact ⟨rfl, _, Eq.trans (World.drewN_drewN _ _ _) (congrArg (World.drewN _) (Nat.add_assoc _ _ _))⟩)))
    repeat (go_quiet (first | (go_at_call 52; (with_reducible refine (plant_named.calls k a0_0 true _ A4.out).mono ?_); rintro e w' ⟨rfl, ⟨nd, rfl⟩⟩; (try first | exact ⟨rfl, _, World.drewN_drewN _ _ _⟩ | exact ⟨rfl, _, Eq.trans (World.drewN_drewN _ _ _) (congrArg (World.drewN _) (Nat.add_assoc _ _ _))⟩))); try go_wp2_with (first | (go_at_call 52; (with_reducible refine (plant_named.calls k a0_0 true _ A4.out).mono ?_); rintro e w' ⟨rfl, ⟨nd, rfl⟩⟩; (try first | exact ⟨rfl, _, World.drewN_drewN _ _ _⟩ | exact ⟨rfl, _, Eq.trans (World.drewN_drewN _ _ _) (congrArg (World.drewN _) (Nat.add_assoc _ _ _))⟩))))
    go_meet
    case rel => exact ⟨_, (decide ((l0_2.length : Int) > 4)), tS_, H', ⟨by first | omega | exact Nat.le_refl _⟩, ⟨dB_ BK104⟩, ⟨dL1_ HB GE104⟩⟩
  ·replace c5 := Bool.eq_false_iff.mpr c5; subst c5; rw [if_neg (show ¬ (false = true) by decide)] at H; have H' := Aside0.mk H; clear H; obtain ⟨z9a, z9b, z9c, y9a, y9b, y9c⟩ := cs3_ BK104.out
   go_wp2_with (first | (go_at_call 52; (with_reducible refine (plant_named.calls k a0_0 false _ A4.out).mono ?_); rintro e w' ⟨rfl, ⟨nd, rfl⟩⟩; (try first | exact ⟨rfl, _, World.drewN_drewN _ _ _⟩ | exact ⟨rfl, _, Eq.trans (World.drewN_drewN _ _ _) (congrArg (World.drewN _) (Nat.add_assoc _ _ _))⟩)))
   repeat (go_quiet (first | (go_at_call 52; (with_reducible refine (plant_named.calls k a0_0 false _ A4.out).mono ?_); rintro e w' ⟨rfl, ⟨nd, rfl⟩⟩; (try first | exact ⟨rfl, _, World.drewN_drewN _ _ _⟩ | exact ⟨rfl, _, Eq.trans (World.drewN_drewN _ _ _) (congrArg (World.drewN _) (Nat.add_assoc _ _ _))⟩))); try go_wp2_with (first | (go_at_call 52; (with_reducible refine (plant_named.calls k a0_0 false _ A4.out).mono ?_); rintro e w' ⟨rfl, ⟨nd, rfl⟩⟩; (try first | exact ⟨rfl, _, World.drewN_drewN _ _ _⟩ | exact ⟨rfl, _, Eq.trans (World.drewN_drewN _ _ _) (congrArg (World.drewN _) (Nat.add_assoc _ _ _))⟩))))
   go_meet
   case rel => exact ⟨_, (true), tS_, H', ⟨by first | omega | exact Nat.le_refl _⟩, ⟨dB_ BK104⟩, ⟨dL1_ HB GE104⟩⟩
 case rest =>
  clear HC2; (try clear c6); obtain ⟨kq, x22_1, rfl, HA, HJ1, BK104, HB⟩ := hcut
  cases kq with
  | zero => exact absurd HA.out (by simp [plant_kind.j0])
  | succ kj1 =>
   have H := HA.out; clear HA; simp only [plant_kind.j0] at H
   by_cases c10 : x22_1 = true
   ·subst c10; rw [if_pos rfl] at H; obtain rfl := Option.some.inj H; go_wp2
    repeat (go_quiet (fail); try go_wp2)
    go_ret
    exact ⟨tE_, dL1_ HB GE104⟩
   ·replace c10 := Bool.eq_false_iff.mpr c10; subst c10; rw [if_neg (show ¬ (false = true) by decide)] at H; have H' := Aside0.mk H; clear H; obtain ⟨z11a, z11b, z11c, y11a, y11b, y11c⟩ := cs3_ BK104.out; go_wp2
    repeat (go_quiet (fail); try go_wp2)
    go_loopg [26] kj1 (fun kq v26 w' => ∃ (x26_2 : Int), v26 = .int .i64 x26_2 ∧ Aside0 (plant_kind.l0 kq l0_1 (l0_1.length : Int) x26_2 a0_0 l0_1 l0_2 = some r) ∧ Aside0 (kq ≤ kj1) ∧ Aside0 (w'.heap[gb104]? = some (.cells #[.string a0_0, (.slice A0_1 l0_1.length c0_1), (.slice A0_2 l0_2.length c0_2)] 39 (0, 0))) ∧ Aside0 (Below w.heap.size w w'))
    case atStart => exact ⟨(0), tS_, H', ⟨Nat.le_refl _⟩, ⟨dB_ BK104⟩, ⟨dL1_ HB GE104⟩⟩
    case round =>
     clear H'; (try clear c6); (try clear c10); (try clear z11a z11b z11c y11a y11b y11c); obtain ⟨x26_2, rfl, HA, HK2, BK104, HB⟩ := hrel
     cases gk with
     | zero => exact absurd HA.out (by simp [plant_kind.l0])
     | succ k2 =>
      have H := HA.out; clear HA; simp only [plant_kind.l0] at H
      by_cases c12 : x26_2 < (l0_1.length : Int)
      ·rw [if_pos c12] at H; have c12b0 : decide (x26_2 < (l0_1.length : Int)) = true := decide_eq_true c12; clear c12
       by_cases c13 : 0 ≤ x26_2
       ·rw [if_pos c13] at H; have c13b0 : decide (0 ≤ x26_2) = true := decide_eq_true c13; clear c13
        by_cases c14 : x26_2 < (l0_1.length : Int)
        ·rw [if_pos c14] at H; have c14b0 : decide (x26_2 < (l0_1.length : Int)) = true := decide_eq_true c14; clear c14; have HC15 := Aside0.mk H; clear H; have p106 : 0 ≤ (x26_2 : Int) := of_decide_eq_true tW_; have q106 : x26_2 < (l0_1.length : Int) := of_decide_eq_true tW_; obtain ⟨ad106, e106, hx106_0⟩ := Kd.at_int HR0_1.out x26_2 p106 q106; cases e106; replace hx106_0 := bc_ HB hx106_0; replace p106 := eq_true p106; replace q106 := eq_true q106
         go_upto_region 6 with (fail)
         repeat (go_quiet (fail); go_upto_region 6 with (fail))
         go_cut [50] (fun v50 wc => ∃ (kq : Nat) (x50_14 : Bool), v50 = .bool x50_14 ∧ Aside0 (plant_kind.j2 kq l0_1 (l0_1.length : Int) x26_2 x50_14 a0_0 l0_1 l0_2 = some r) ∧ Aside0 (kq ≤ k2) ∧ Aside0 (wc.heap[gb104]? = some (.cells #[.string a0_0, (.slice (some ad106) l0_1.length c0_1), (.slice A0_2 l0_2.length c0_2)] 39 (0, 0))) ∧ Aside0 (Below w.heap.size w wc))
         case first =>
          have H := HC15.out; clear HC15
          by_cases c16 : (rd l0_1 x26_2) < 0
          ·rw [if_pos c16] at H; have c16b0 : decide ((rd l0_1 x26_2) < 0) = true := decide_eq_true c16; clear c16
           (first | rw [c16b0] | (simp only [i64_w, i32_w]; rw [c16b0]) | skip)
           have H' := Aside0.mk H; clear H; go_wp2
           repeat (go_quiet (fail); try go_wp2)
           go_meet
           case rel => exact ⟨_, (true), tS_, H', ⟨by have := HJ1.out; have := HK2.out; first | omega | exact Nat.le_refl _⟩, ⟨dB_ BK104⟩, ⟨dL1_ HB GE104⟩⟩
          ·rw [if_neg c16] at H; have c16b0 : decide ((rd l0_1 x26_2) < 0) = false := decide_eq_false c16; clear c16
           (first | rw [c16b0] | (simp only [i64_w, i32_w]; rw [c16b0]) | skip)
           by_cases c17 : (rd l0_1 x26_2) ≥ 16
           ·rw [if_pos c17] at H; have c17b0 : decide (16 ≤ (rd l0_1 x26_2)) = true := decide_eq_true c17; clear c17; have H' := Aside0.mk H; clear H; go_wp2
            repeat (go_quiet (fail); try go_wp2)
            go_meet
            case rel => exact ⟨_, (true), tS_, H', ⟨by have := HJ1.out; have := HK2.out; first | omega | exact Nat.le_refl _⟩, ⟨dB_ BK104⟩, ⟨dL1_ HB GE104⟩⟩
           ·rw [if_neg c17] at H; have c17b0 : decide (16 ≤ (rd l0_1 x26_2)) = false := decide_eq_false c17; clear c17
            by_cases c18 : x26_2 > 0
            ·rw [if_pos c18] at H; have c18b0 : decide (0 < x26_2) = true := decide_eq_true c18; clear c18; obtain ⟨ji19, hji19⟩ : ∃ j_ : Int, (wrap64 (x26_2 - 1)) = j_ := ⟨_, rfl⟩; replace H : (if 0 ≤ (ji19) then (if (ji19) < (l0_1.length : Int) then (plant_kind.j2 k2 l0_1 (l0_1.length : Int) x26_2 (decide ((rd l0_1 x26_2) ≤ (rd l0_1 (ji19)))) a0_0 l0_1 l0_2) else (none)) else (none)) = some r := by first | (rw [hji19] at H; exact H) | (simp only [hji19] at H ⊢; exact H)
             have hji19w : (IntKind.i64.wrap (x26_2 - 1)) = ji19 := (i64_w _).trans hji19
             by_cases c20 : 0 ≤ (ji19)
             ·rw [if_pos c20] at H; have c20b0 : decide (0 ≤ (ji19)) = true := decide_eq_true c20; clear c20
              by_cases c21 : (ji19) < (l0_1.length : Int)
              ·rw [if_pos c21] at H; have c21b0 : decide ((ji19) < (l0_1.length : Int)) = true := decide_eq_true c21; clear c21; have H' := Aside0.mk H; clear H; obtain ⟨z22a, z22b, z22c, y22a, y22b, y22c⟩ := cs3_ BK104.out; have p107 : 0 ≤ ((ji19) : Int) := of_decide_eq_true tW_; have q107 : (ji19) < (l0_1.length : Int) := of_decide_eq_true tW_; obtain ⟨ad107, e107, hx107_0⟩ := Kd.at_int HR0_1.out (ji19) p107 q107; obtain rfl : ad106 = ad107 := (by injection e107); replace hx107_0 := bc_ HB hx107_0; replace p107 := eq_true p107; replace q107 := eq_true q107; go_wp2
               repeat (go_quiet (fail); try go_wp2)
               go_meet
               case rel => exact ⟨_, (decide ((rd l0_1 x26_2) ≤ (rd l0_1 (ji19)))), (by first | rfl | (simp; done) | (simp only [← hji19]; rw [shl_one_small _ (by assumption) (by omega)]; done) | (simp only [← hji19] <;> (first | rfl | simp)) | (simp [*]; done) | (refine congrArg (Value.int .i64) ?_; unfold wrap64; omega) | (simp only [shl_one_small _ (by assumption) (by omega)]; done) | (simp [*]; rw [shl_one_small _ (by assumption) (by omega)]; done)), H', ⟨by have := HJ1.out; have := HK2.out; first | omega | exact Nat.le_refl _⟩, ⟨dB_ BK104⟩, ⟨dL1_ HB GE104⟩⟩
              ·rw [if_neg c21] at H; exact absurd H (by simp)
             ·rw [if_neg c20] at H; exact absurd H (by simp)
            ·rw [if_neg c18] at H; have c18b0 : decide (0 < x26_2) = false := decide_eq_false c18; clear c18; have H' := Aside0.mk H; clear H; go_wp2
             repeat (go_quiet (fail); try go_wp2)
             go_meet
             case rel => exact ⟨_, (false), tS_, H', ⟨by have := HJ1.out; have := HK2.out; first | omega | exact Nat.le_refl _⟩, ⟨dB_ BK104⟩, ⟨dL1_ HB GE104⟩⟩
         case rest =>
          clear HC15; (try clear c6); (try clear c10); (try clear c12); (try clear c12b0); (try clear c13); (try clear c13b0); (try clear c14); (try clear c14b0); (try clear c16); (try clear c17); (try clear c18); (try clear c20); (try clear c21); (try clear z11a z11b z11c y11a y11b y11c); (try clear hx106_0); (try clear p106); (try clear q106); obtain ⟨kq, x50_14, rfl, HA, HJ14, BK104, HB⟩ := hcut
          cases kq with
          | zero => exact absurd HA.out (by simp [plant_kind.j2])
          | succ kj14 =>
           have H := HA.out; clear HA; simp only [plant_kind.j2] at H
           by_cases c23 : x50_14 = true
           ·subst c23; rw [if_pos rfl] at H; obtain rfl := Option.some.inj H; go_wp2
            repeat (go_quiet (fail); try go_wp2)
            go_ret
            exact ⟨tE_, dL1_ HB GE104⟩
           ·replace c23 := Bool.eq_false_iff.mpr c23; subst c23; rw [if_neg (show ¬ (false = true) by decide)] at H; have H' := Aside0.mk H; clear H; go_wp2
            repeat (go_quiet (fail); try go_wp2)
            go_roundg kj14
            case measure => have := HJ1.out; have := HK2.out; have := HJ14.out; omega
            case rel => exact ⟨(wrap64 (x26_2 + 1)), tS_, H', ⟨by have := HJ1.out; have := HK2.out; have := HJ14.out; omega⟩, ⟨dB_ BK104⟩, ⟨dL1_ HB GE104⟩⟩
        ·rw [if_neg c14] at H; exact absurd H (by simp)
       ·rw [if_neg c13] at H; exact absurd H (by simp)
      ·rw [if_neg c12] at H; have c12b0 : decide (x26_2 < (l0_1.length : Int)) = false := decide_eq_false c12; clear c12; have H' := Aside0.mk H; clear H; obtain ⟨z24a, z24b, z24c, y24a, y24b, y24c⟩ := cs3_ BK104.out; go_wp2
       repeat (go_quiet (fail); try go_wp2)
       go_loopg [55] k2 (fun kq v55 w' => ∃ (x55_3 : Int), v55 = .int .i64 x55_3 ∧ Aside0 (plant_kind.l1 kq l0_2 (l0_2.length : Int) x55_3 a0_0 l0_1 l0_2 = some r) ∧ Aside0 (kq ≤ k2) ∧ Aside0 (w'.heap[gb104]? = some (.cells #[.string a0_0, (.slice A0_1 l0_1.length c0_1), (.slice A0_2 l0_2.length c0_2)] 39 (0, 0))) ∧ Aside0 (Below w.heap.size w w'))
       case atStart => exact ⟨(0), tS_, H', ⟨Nat.le_refl _⟩, ⟨dB_ BK104⟩, ⟨dL1_ HB GE104⟩⟩
       case round =>
        clear H'; (try clear c6); (try clear c10); (try clear c12); (try clear c12b0); (try clear c13); (try clear c14); (try clear c16); (try clear c17); (try clear c18); (try clear c20); (try clear c21); (try clear z11a z11b z11c y11a y11b y11c); (try clear z24a z24b z24c y24a y24b y24c); obtain ⟨x55_3, rfl, HA, HK3, BK104, HB⟩ := hrel
        cases gk with
        | zero => exact absurd HA.out (by simp [plant_kind.l1])
        | succ k3 =>
         have H := HA.out; clear HA; simp only [plant_kind.l1] at H
         by_cases c25 : x55_3 < (l0_2.length : Int)
         ·rw [if_pos c25] at H; have c25b0 : decide (x55_3 < (l0_2.length : Int)) = true := decide_eq_true c25; clear c25
          by_cases c26 : 0 ≤ x55_3
          ·rw [if_pos c26] at H; have c26b0 : decide (0 ≤ x55_3) = true := decide_eq_true c26; clear c26
           by_cases c27 : x55_3 < (l0_2.length : Int)
           ·rw [if_pos c27] at H; have c27b0 : decide (x55_3 < (l0_2.length : Int)) = true := decide_eq_true c27; clear c27; have HC28 := Aside0.mk H; clear H; have p108 : 0 ≤ (x55_3 : Int) := of_decide_eq_true tW_; have q108 : x55_3 < (l0_2.length : Int) := of_decide_eq_true tW_; obtain ⟨ad108, e108, hx108_0, hx108_1⟩ := at_T41 HR0_2.out x55_3 p108 q108; cases e108; replace hx108_0 := bc_ HB hx108_0; replace hx108_1 := bc_ HB hx108_1; replace p108 := eq_true p108; replace q108 := eq_true q108
            go_upto_region 12 with (first | ((with_reducible refine gate_dst (N := 6) rfl ?_); (try (refine gate_guard (by rfl) ?_; dsimp only)); refine bx_ (N := 6) (cs := #[.int .i64 0, .int .i64 0]) (t := 41) ?_; intro gb109 hg w29 hbox hb; have BK109 := Aside0.mk (hbox); have GW109 := Aside0.mk ((dS_ hg (dL1_ HB GE104) : w.heap.size ≤ gb109)); have GE109 := GW109; replace HB := Aside0.mk (below_step (dL1_ HB GE104) hb); have NB104_109 := nb_ hg BK104; have NB109_104 := nc_ hg BK104; replace BK104 := bk_ BK104 hb; clear hb hbox hg; have hnb30 := NB109_104.out; have hnc30 := NB104_109.out; obtain ⟨z31a, z31b, y31a, y31b⟩ := cs2_ BK109.out))
            repeat (go_quiet (first | ((with_reducible refine gate_dst (N := 6) rfl ?_); (try (refine gate_guard (by rfl) ?_; dsimp only)); refine bx_ (N := 6) (cs := #[.int .i64 0, .int .i64 0]) (t := 41) ?_; intro gb109 hg w29 hbox hb; have BK109 := Aside0.mk (hbox); have GW109 := Aside0.mk ((dS_ hg (dL1_ HB GE104) : w.heap.size ≤ gb109)); have GE109 := GW109; replace HB := Aside0.mk (below_step (dL1_ HB GE104) hb); have NB104_109 := nb_ hg BK104; have NB109_104 := nc_ hg BK104; replace BK104 := bk_ BK104 hb; clear hb hbox hg; have hnb30 := NB109_104.out; have hnc30 := NB104_109.out; obtain ⟨z31a, z31b, y31a, y31b⟩ := cs2_ BK109.out)); go_upto_region 12 with (first | ((with_reducible refine gate_dst (N := 6) rfl ?_); (try (refine gate_guard (by rfl) ?_; dsimp only)); refine bx_ (N := 6) (cs := #[.int .i64 0, .int .i64 0]) (t := 41) ?_; intro gb109 hg w29 hbox hb; have BK109 := Aside0.mk (hbox); have GW109 := Aside0.mk ((dS_ hg (dL1_ HB GE104) : w.heap.size ≤ gb109)); have GE109 := GW109; replace HB := Aside0.mk (below_step (dL1_ HB GE104) hb); have NB104_109 := nb_ hg BK104; have NB109_104 := nc_ hg BK104; replace BK104 := bk_ BK104 hb; clear hb hbox hg; have hnb30 := NB109_104.out; have hnc30 := NB104_109.out; obtain ⟨z31a, z31b, y31a, y31b⟩ := cs2_ BK109.out)))
            (try simp only [Act.put, List.setIfInBounds_toArray, List.set_cons_zero, List.set_cons_succ])
            go_cut [93] (fun v93 wc => ∃ (kq : Nat) (x93_27 : Bool), v93 = .bool x93_27 ∧ Aside0 (plant_kind.j4 kq l0_2 (l0_2.length : Int) x55_3 x93_27 a0_0 l0_1 l0_2 = some r) ∧ Aside0 (kq ≤ k3) ∧ Aside0 (wc.heap[gb104]? = some (.cells #[.string a0_0, (.slice A0_1 l0_1.length c0_1), (.slice (some ad108) l0_2.length c0_2)] 39 (0, 0))) ∧ Aside0 (wc.heap[gb109]? = some (.cells #[.int .i64 ((rd_T41 l0_2 x55_3).f0), .int .i64 ((rd_T41 l0_2 x55_3).f1)] 41 (0, 0))) ∧ Aside0 (Below w.heap.size w wc))
            case first =>
             have H := HC28.out; clear HC28
             by_cases c32 : ((rd_T41 l0_2 x55_3).f0) < 0
             ·rw [if_pos c32] at H; have c32b0 : decide (((rd_T41 l0_2 x55_3).f0) < 0) = true := decide_eq_true c32; clear c32
              (first | rw [c32b0] | (simp only [i64_w, i32_w]; rw [c32b0]) | skip)
              have H' := Aside0.mk H; clear H; have hnb33 := NB109_104.out; have hnc33 := NB104_109.out; obtain ⟨z34a, z34b, y34a, y34b⟩ := cs2_ BK109.out; go_wp2
              repeat (go_quiet (fail); try go_wp2)
              go_meet
              case rel => exact ⟨_, (true), tS_, H', ⟨by have := HJ1.out; have := HK2.out; have := HK3.out; first | omega | exact Nat.le_refl _⟩, ⟨bz_ BK104⟩, ⟨bz_ BK109⟩, ⟨dL2_ HB GE104 GE109⟩⟩
             ·rw [if_neg c32] at H; have c32b0 : decide (((rd_T41 l0_2 x55_3).f0) < 0) = false := decide_eq_false c32; clear c32
              (first | rw [c32b0] | (simp only [i64_w, i32_w]; rw [c32b0]) | skip)
              by_cases c35 : ((rd_T41 l0_2 x55_3).f0) ≥ 16
              ·rw [if_pos c35] at H; have c35b0 : decide (16 ≤ ((rd_T41 l0_2 x55_3).f0)) = true := decide_eq_true c35; clear c35; have H' := Aside0.mk H; clear H; have hnb36 := NB109_104.out; have hnc36 := NB104_109.out; obtain ⟨z37a, z37b, y37a, y37b⟩ := cs2_ BK109.out; go_wp2
               repeat (go_quiet (fail); try go_wp2)
               go_meet
               case rel => exact ⟨_, (true), tS_, H', ⟨by have := HJ1.out; have := HK2.out; have := HK3.out; first | omega | exact Nat.le_refl _⟩, ⟨bz_ BK104⟩, ⟨bz_ BK109⟩, ⟨dL2_ HB GE104 GE109⟩⟩
              ·rw [if_neg c35] at H; have c35b0 : decide (16 ≤ ((rd_T41 l0_2 x55_3).f0)) = false := decide_eq_false c35; clear c35
               by_cases c38 : ((rd_T41 l0_2 x55_3).f1) < 1
               ·rw [if_pos c38] at H; have c38b0 : decide (((rd_T41 l0_2 x55_3).f1) < 1) = true := decide_eq_true c38; clear c38; have H' := Aside0.mk H; clear H; have hnb39 := NB109_104.out; have hnc39 := NB104_109.out; obtain ⟨z40a, z40b, y40a, y40b⟩ := cs2_ BK109.out; go_wp2
                repeat (go_quiet (fail); try go_wp2)
                go_meet
                case rel => exact ⟨_, (true), tS_, H', ⟨by have := HJ1.out; have := HK2.out; have := HK3.out; first | omega | exact Nat.le_refl _⟩, ⟨bz_ BK104⟩, ⟨bz_ BK109⟩, ⟨dL2_ HB GE104 GE109⟩⟩
               ·rw [if_neg c38] at H; have c38b0 : decide (((rd_T41 l0_2 x55_3).f1) < 1) = false := decide_eq_false c38; clear c38
                by_cases c41 : ((rd_T41 l0_2 x55_3).f1) > 1000
                ·rw [if_pos c41] at H; have c41b0 : decide (1000 < ((rd_T41 l0_2 x55_3).f1)) = true := decide_eq_true c41; clear c41; have H' := Aside0.mk H; clear H; have hnb42 := NB109_104.out; have hnc42 := NB104_109.out; obtain ⟨z43a, z43b, y43a, y43b⟩ := cs2_ BK109.out; go_wp2
                 repeat (go_quiet (fail); try go_wp2)
                 go_meet
                 case rel => exact ⟨_, (true), tS_, H', ⟨by have := HJ1.out; have := HK2.out; have := HK3.out; first | omega | exact Nat.le_refl _⟩, ⟨bz_ BK104⟩, ⟨bz_ BK109⟩, ⟨dL2_ HB GE104 GE109⟩⟩
                ·rw [if_neg c41] at H; have c41b0 : decide (1000 < ((rd_T41 l0_2 x55_3).f1)) = false := decide_eq_false c41; clear c41
                 by_cases c44 : x55_3 > 0
                 ·rw [if_pos c44] at H; have c44b0 : decide (0 < x55_3) = true := decide_eq_true c44; clear c44; obtain ⟨ji45, hji45⟩ : ∃ j_ : Int, (wrap64 (x55_3 - 1)) = j_ := ⟨_, rfl⟩; replace H : (if 0 ≤ (ji45) then (if (ji45) < (l0_2.length : Int) then (plant_kind.j4 k3 l0_2 (l0_2.length : Int) x55_3 (decide (((rd_T41 l0_2 x55_3).f0) ≤ ((rd_T41 l0_2 (ji45)).f0))) a0_0 l0_1 l0_2) else (none)) else (none)) = some r := by first | (rw [hji45] at H; exact H) | (simp only [hji45] at H ⊢; exact H)
                  have hji45w : (IntKind.i64.wrap (x55_3 - 1)) = ji45 := (i64_w _).trans hji45
                  by_cases c46 : 0 ≤ (ji45)
                  ·rw [if_pos c46] at H; have c46b0 : decide (0 ≤ (ji45)) = true := decide_eq_true c46; clear c46
                   by_cases c47 : (ji45) < (l0_2.length : Int)
                   ·rw [if_pos c47] at H; have c47b0 : decide ((ji45) < (l0_2.length : Int)) = true := decide_eq_true c47; clear c47; have H' := Aside0.mk H; clear H; have hnb48 := NB109_104.out; have hnc48 := NB104_109.out; obtain ⟨z49a, z49b, y49a, y49b⟩ := cs2_ BK109.out; obtain ⟨z50a, z50b, z50c, y50a, y50b, y50c⟩ := cs3_ BK104.out; have p110 : 0 ≤ ((ji45) : Int) := of_decide_eq_true tW_; have q110 : (ji45) < (l0_2.length : Int) := of_decide_eq_true tW_; obtain ⟨ad110, e110, hx110_0, hx110_1⟩ := at_T41 HR0_2.out (ji45) p110 q110; obtain rfl : ad108 = ad110 := (by injection e110); have hn110_0 : ad108.block ≠ gb109 := Nat.ne_of_lt (Nat.lt_of_lt_of_le (by have := World.block_lt_of_cell? _ _ hx110_0; first | rwa [add_block] at this | exact this) GW109.out); have hn110_1 : ad108.block ≠ gb109 := Nat.ne_of_lt (Nat.lt_of_lt_of_le (by have := World.block_lt_of_cell? _ _ hx110_0; first | rwa [add_block] at this | exact this) GW109.out); replace hx110_0 := bc_ HB hx110_0; replace hx110_1 := bc_ HB hx110_1; replace hx110_0 := (cell_far (p := ⟨gb109, 0, none⟩) (aB_ hn110_0) (.int .i64 ((rd_T41 l0_2 x55_3).f0))).trans hx110_0; replace hx110_1 := (cell_far (p := ⟨gb109, 0, none⟩) (aB_ hn110_0) (.int .i64 ((rd_T41 l0_2 x55_3).f0))).trans hx110_1; replace hx110_0 := (cell_far (p := ⟨gb109, 1, none⟩) (aB_ hn110_1) (.int .i64 ((rd_T41 l0_2 x55_3).f1))).trans hx110_0; replace hx110_1 := (cell_far (p := ⟨gb109, 1, none⟩) (aB_ hn110_1) (.int .i64 ((rd_T41 l0_2 x55_3).f1))).trans hx110_1; (try have hy110_0 := fun (n_ : Nat) => (show ((((w29.drewN n_).setCell ⟨gb109, 0, none⟩ (.int .i64 ((rd_T41 l0_2 x55_3).f0))).setCell ⟨gb109, 1, none⟩ (.int .i64 ((rd_T41 l0_2 x55_3).f1)))).cell? _ = some _ from hx110_0)); (try have hy110_1 := fun (n_ : Nat) => (show ((((w29.drewN n_).setCell ⟨gb109, 0, none⟩ (.int .i64 ((rd_T41 l0_2 x55_3).f0))).setCell ⟨gb109, 1, none⟩ (.int .i64 ((rd_T41 l0_2 x55_3).f1)))).cell? _ = some _ from hx110_1)); clear hn110_0; clear hn110_1; replace p110 := eq_true p110; replace q110 := eq_true q110; go_wp2
                    repeat (go_quiet (fail); try go_wp2)
                    go_meet
                    case rel => exact ⟨_, (decide (((rd_T41 l0_2 x55_3).f0) ≤ ((rd_T41 l0_2 (ji45)).f0))), (by first | rfl | (simp; done) | (simp only [← hji45]; rw [shl_one_small _ (by assumption) (by omega)]; done) | (simp only [← hji45] <;> (first | rfl | simp)) | (simp [*]; done) | (refine congrArg (Value.int .i64) ?_; unfold wrap64; omega) | (simp only [shl_one_small _ (by assumption) (by omega)]; done) | (simp [*]; rw [shl_one_small _ (by assumption) (by omega)]; done)), H', ⟨by have := HJ1.out; have := HK2.out; have := HK3.out; first | omega | exact Nat.le_refl _⟩, ⟨bz_ BK104⟩, ⟨bz_ BK109⟩, ⟨dL2_ HB GE104 GE109⟩⟩
                   ·rw [if_neg c47] at H; exact absurd H (by simp)
                  ·rw [if_neg c46] at H; exact absurd H (by simp)
                 ·rw [if_neg c44] at H; have c44b0 : decide (0 < x55_3) = false := decide_eq_false c44; clear c44; have H' := Aside0.mk H; clear H; have hnb51 := NB109_104.out; have hnc51 := NB104_109.out; obtain ⟨z52a, z52b, y52a, y52b⟩ := cs2_ BK109.out; go_wp2
                  repeat (go_quiet (fail); try go_wp2)
                  go_meet
                  case rel => exact ⟨_, (false), tS_, H', ⟨by have := HJ1.out; have := HK2.out; have := HK3.out; first | omega | exact Nat.le_refl _⟩, ⟨bz_ BK104⟩, ⟨bz_ BK109⟩, ⟨dL2_ HB GE104 GE109⟩⟩
            case rest =>
             clear HC28; (try clear c6); (try clear c10); (try clear c12); (try clear c12b0); (try clear c13); (try clear c14); (try clear c16); (try clear c17); (try clear c18); (try clear c20); (try clear c21); (try clear c25); (try clear c25b0); (try clear c26); (try clear c26b0); (try clear c27); (try clear c27b0); (try clear c32); (try clear c35); (try clear c38); (try clear c41); (try clear c44); (try clear c46); (try clear c47); (try clear z11a z11b z11c y11a y11b y11c); (try clear z24a z24b z24c y24a y24b y24c); (try clear z31a z31b y31a y31b); (try clear hx108_0); (try clear hx108_1); (try clear p108); (try clear q108); obtain ⟨kq, x93_27, rfl, HA, HJ27, BK104, BK109, HB⟩ := hcut
             cases kq with
             | zero => exact absurd HA.out (by simp [plant_kind.j4])
             | succ kj27 =>
              have H := HA.out; clear HA; simp only [plant_kind.j4] at H
              by_cases c53 : x93_27 = true
              ·subst c53; rw [if_pos rfl] at H; obtain rfl := Option.some.inj H; go_wp2
               repeat (go_quiet (fail); try go_wp2)
               go_ret
               exact ⟨tE_, dL2_ HB GE104 GE109⟩
              ·replace c53 := Bool.eq_false_iff.mpr c53; subst c53; rw [if_neg (show ¬ (false = true) by decide)] at H; have H' := Aside0.mk H; clear H; go_wp2
               repeat (go_quiet (fail); try go_wp2)
               go_roundg kj27
               case measure => have := HJ1.out; have := HK2.out; have := HK3.out; have := HJ27.out; omega
               case rel => exact ⟨(wrap64 (x55_3 + 1)), tS_, H', ⟨by have := HJ1.out; have := HK2.out; have := HK3.out; have := HJ27.out; omega⟩, ⟨dB_ BK104⟩, ⟨dL2_ HB GE104 GE109⟩⟩
           ·rw [if_neg c27] at H; exact absurd H (by simp)
          ·rw [if_neg c26] at H; exact absurd H (by simp)
         ·rw [if_neg c25] at H; have c25b0 : decide (x55_3 < (l0_2.length : Int)) = false := decide_eq_false c25; clear c25; obtain rfl := Option.some.inj H; go_wp2
          repeat (go_quiet (fail); try go_wp2)
          go_ret
          exact ⟨tE_, dL1_ HB GE104⟩

end Go.Proofs.Ytnkgelnkoljgdaa.Q
