-- PRINTED by print.py (a twelfth state) out of the translation. Not trusted: Lean checks it.
import Derived.Test.YtnkgelnkoljgdaaPrs
import Derived.Test.YtnkgelnkoljgdaaQ0
import Derived.Test.YtnkgelnkoljgdaaQ16
import Derived.Test.YtnkgelnkoljgdaaQ17
namespace Go.Proofs.Ytnkgelnkoljgdaa.Q
open Go.RowKit Go.Proofs.YtnkgelnkoljgdaaPrs Go.Proofs.YtnkgelnkoljgdaaOwn Go.Proofs.YtnkgelnkoljgdaaW.PrintWords Go.Proofs.YtnkgelnkoljgdaaW.PrintLast Go.Proofs.YtnkgelnkoljgdaaW.PrintMore
attribute [local go_sem] max2_int min2_int max_two min_two max_three min_three max_four min_four   -- for this text's walks alone
set_option linter.unusedVariables false
set_option linter.unusedSimpArgs false

/-! ### hinterlandref10_right: function 48 -/
mutual
def hinterlandref10_right.j0 : Nat → Bool → ByteArray → List Int → List (S41) → Option (Bool)
  | 0, _, _, _, _ => none
  | k + 1, x22, x248000, x248001, x248002 => if x22 = true then (some false) else (hinterlandref10_right.l0 k x248001 (x248001.length : Int) 0 x248000 x248001 x248002)
def hinterlandref10_right.l0 : Nat → List Int → Int → Int → ByteArray → List Int → List (S41) → Option (Bool)
  | 0, _, _, _, _, _, _ => none
  | k + 1, x24, x25, x26, x248000, x248001, x248002 => if x26 < x25 then (if 0 ≤ x26 then (if x26 < (x24.length : Int) then ((hinterlandref10_within.f (rd x24 x26) 0 15).bind fun t250 => (if t250 = true then (if x26 > 0 then (if 0 ≤ (wrap64 (x26 - 1)) then (if (wrap64 (x26 - 1)) < (x248001.length : Int) then (hinterlandref10_right.j2 k x24 x25 x26 (decide ((rd x248001 (wrap64 (x26 - 1))) ≥ (rd x24 x26))) x248000 x248001 x248002) else (none)) else (none)) else (hinterlandref10_right.j2 k x24 x25 x26 false x248000 x248001 x248002)) else (hinterlandref10_right.j2 k x24 x25 x26 true x248000 x248001 x248002))) else (none)) else (none)) else (hinterlandref10_right.l1 k x248002 (x248002.length : Int) 0 x248000 x248001 x248002)
def hinterlandref10_right.j2 : Nat → List Int → Int → Int → Bool → ByteArray → List Int → List (S41) → Option (Bool)
  | 0, _, _, _, _, _, _, _ => none
  | k + 1, x24, x25, x26, x47, x248000, x248001, x248002 => if x47 = true then (some false) else (hinterlandref10_right.l0 k x24 x25 (wrap64 (x26 + 1)) x248000 x248001 x248002)
def hinterlandref10_right.l1 : Nat → List (S41) → Int → Int → ByteArray → List Int → List (S41) → Option (Bool)
  | 0, _, _, _, _, _, _ => none
  | k + 1, x50, x51, x52, x248000, x248001, x248002 => if x52 < x51 then (if 0 ≤ x52 then (if x52 < (x50.length : Int) then ((hinterlandref10_within.f ((rd_T41 x50 x52).f0) 0 15).bind fun t254 => (if t254 = true then ((hinterlandref10_within.f ((rd_T41 x50 x52).f1) 1 1000).bind fun t255 => (if t255 = true then (if x52 > 0 then (if 0 ≤ (wrap64 (x52 - 1)) then (if (wrap64 (x52 - 1)) < (x248002.length : Int) then (hinterlandref10_right.j4 k x50 x51 x52 (decide (((rd_T41 x248002 (wrap64 (x52 - 1))).f0) ≥ ((rd_T41 x50 x52).f0))) x248000 x248001 x248002) else (none)) else (none)) else (hinterlandref10_right.j4 k x50 x51 x52 false x248000 x248001 x248002)) else (hinterlandref10_right.j4 k x50 x51 x52 true x248000 x248001 x248002))) else (hinterlandref10_right.j4 k x50 x51 x52 true x248000 x248001 x248002))) else (none)) else (none)) else (some true)
def hinterlandref10_right.j4 : Nat → List (S41) → Int → Int → Bool → ByteArray → List Int → List (S41) → Option (Bool)
  | 0, _, _, _, _, _, _, _ => none
  | k + 1, x50, x51, x52, x82, x248000, x248001, x248002 => if x82 = true then (some false) else (hinterlandref10_right.l1 k x50 x51 (wrap64 (x52 + 1)) x248000 x248001 x248002)
end
def hinterlandref10_right.f (k : Nat) (a0_0 : ByteArray) (l0_1 : List Int) (l0_2 : List (S41)) : Option (Bool) := (hinterlandref10_Named.f k a0_0).bind fun t248 => (if t248 = true then (if (l0_1.length : Int) > 4 then (hinterlandref10_right.j0 k true a0_0 l0_1 l0_2) else (hinterlandref10_right.j0 k (decide ((l0_2.length : Int) > 4)) a0_0 l0_1 l0_2)) else (hinterlandref10_right.j0 k true a0_0 l0_1 l0_2))
theorem hinterlandref10_right.mono_l : ∀ k, (∀ y0 y1 y2 y3, LeO (hinterlandref10_right.j0 k y0 y1 y2 y3) (hinterlandref10_right.j0 (k + 1) y0 y1 y2 y3)) ∧ (∀ y0 y1 y2 y3 y4 y5, LeO (hinterlandref10_right.l0 k y0 y1 y2 y3 y4 y5) (hinterlandref10_right.l0 (k + 1) y0 y1 y2 y3 y4 y5)) ∧ (∀ y0 y1 y2 y3 y4 y5 y6, LeO (hinterlandref10_right.j2 k y0 y1 y2 y3 y4 y5 y6) (hinterlandref10_right.j2 (k + 1) y0 y1 y2 y3 y4 y5 y6)) ∧ (∀ y0 y1 y2 y3 y4 y5, LeO (hinterlandref10_right.l1 k y0 y1 y2 y3 y4 y5) (hinterlandref10_right.l1 (k + 1) y0 y1 y2 y3 y4 y5)) ∧ (∀ y0 y1 y2 y3 y4 y5 y6, LeO (hinterlandref10_right.j4 k y0 y1 y2 y3 y4 y5 y6) (hinterlandref10_right.j4 (k + 1) y0 y1 y2 y3 y4 y5 y6))
  | 0 => ⟨fun _ _ _ _ r h => by simp [hinterlandref10_right.j0] at h, fun _ _ _ _ _ _ r h => by simp [hinterlandref10_right.l0] at h, fun _ _ _ _ _ _ _ r h => by simp [hinterlandref10_right.j2] at h, fun _ _ _ _ _ _ r h => by simp [hinterlandref10_right.l1] at h, fun _ _ _ _ _ _ _ r h => by simp [hinterlandref10_right.j4] at h⟩
  | k + 1 => by
    obtain ⟨ih0, ih1, ih2, ih3, ih4⟩ := hinterlandref10_right.mono_l k
    refine ⟨?_, ?_, ?_, ?_, ?_⟩
    · intro y0 y1 y2 y3
      unfold hinterlandref10_right.j0
      repeat' first
      | (with_reducible first | exact ih0 _ _ _ _ | exact ih1 _ _ _ _ _ _ | exact ih2 _ _ _ _ _ _ _ | exact ih3 _ _ _ _ _ _ | exact ih4 _ _ _ _ _ _ _ | exact hinterlandref10_Named.mono _ _ | exact LeO.refl _ | exact LeO.none _ | refine LeO.ite ?_ ?_ | refine LeO.bind ?_ (fun _ => ?_))
      | exact ih0 _ _ _ _
      | exact ih1 _ _ _ _ _ _
      | exact ih2 _ _ _ _ _ _ _
      | exact ih3 _ _ _ _ _ _
      | exact ih4 _ _ _ _ _ _ _
      | exact hinterlandref10_Named.mono _ _
      | exact LeO.none _
      | refine LeO.ite ?_ ?_
      | refine LeO.bind ?_ (fun _ => ?_)
    · intro y0 y1 y2 y3 y4 y5
      unfold hinterlandref10_right.l0
      repeat' first
      | (with_reducible first | exact ih0 _ _ _ _ | exact ih1 _ _ _ _ _ _ | exact ih2 _ _ _ _ _ _ _ | exact ih3 _ _ _ _ _ _ | exact ih4 _ _ _ _ _ _ _ | exact hinterlandref10_Named.mono _ _ | exact LeO.refl _ | exact LeO.none _ | refine LeO.ite ?_ ?_ | refine LeO.bind ?_ (fun _ => ?_))
      | exact ih0 _ _ _ _
      | exact ih1 _ _ _ _ _ _
      | exact ih2 _ _ _ _ _ _ _
      | exact ih3 _ _ _ _ _ _
      | exact ih4 _ _ _ _ _ _ _
      | exact hinterlandref10_Named.mono _ _
      | exact LeO.none _
      | refine LeO.ite ?_ ?_
      | refine LeO.bind ?_ (fun _ => ?_)
    · intro y0 y1 y2 y3 y4 y5 y6
      unfold hinterlandref10_right.j2
      repeat' first
      | (with_reducible first | exact ih0 _ _ _ _ | exact ih1 _ _ _ _ _ _ | exact ih2 _ _ _ _ _ _ _ | exact ih3 _ _ _ _ _ _ | exact ih4 _ _ _ _ _ _ _ | exact hinterlandref10_Named.mono _ _ | exact LeO.refl _ | exact LeO.none _ | refine LeO.ite ?_ ?_ | refine LeO.bind ?_ (fun _ => ?_))
      | exact ih0 _ _ _ _
      | exact ih1 _ _ _ _ _ _
      | exact ih2 _ _ _ _ _ _ _
      | exact ih3 _ _ _ _ _ _
      | exact ih4 _ _ _ _ _ _ _
      | exact hinterlandref10_Named.mono _ _
      | exact LeO.none _
      | refine LeO.ite ?_ ?_
      | refine LeO.bind ?_ (fun _ => ?_)
    · intro y0 y1 y2 y3 y4 y5
      unfold hinterlandref10_right.l1
      repeat' first
      | (with_reducible first | exact ih0 _ _ _ _ | exact ih1 _ _ _ _ _ _ | exact ih2 _ _ _ _ _ _ _ | exact ih3 _ _ _ _ _ _ | exact ih4 _ _ _ _ _ _ _ | exact hinterlandref10_Named.mono _ _ | exact LeO.refl _ | exact LeO.none _ | refine LeO.ite ?_ ?_ | refine LeO.bind ?_ (fun _ => ?_))
      | exact ih0 _ _ _ _
      | exact ih1 _ _ _ _ _ _
      | exact ih2 _ _ _ _ _ _ _
      | exact ih3 _ _ _ _ _ _
      | exact ih4 _ _ _ _ _ _ _
      | exact hinterlandref10_Named.mono _ _
      | exact LeO.none _
      | refine LeO.ite ?_ ?_
      | refine LeO.bind ?_ (fun _ => ?_)
    · intro y0 y1 y2 y3 y4 y5 y6
      unfold hinterlandref10_right.j4
      repeat' first
      | (with_reducible first | exact ih0 _ _ _ _ | exact ih1 _ _ _ _ _ _ | exact ih2 _ _ _ _ _ _ _ | exact ih3 _ _ _ _ _ _ | exact ih4 _ _ _ _ _ _ _ | exact hinterlandref10_Named.mono _ _ | exact LeO.refl _ | exact LeO.none _ | refine LeO.ite ?_ ?_ | refine LeO.bind ?_ (fun _ => ?_))
      | exact ih0 _ _ _ _
      | exact ih1 _ _ _ _ _ _
      | exact ih2 _ _ _ _ _ _ _
      | exact ih3 _ _ _ _ _ _
      | exact ih4 _ _ _ _ _ _ _
      | exact hinterlandref10_Named.mono _ _
      | exact LeO.none _
      | refine LeO.ite ?_ ?_
      | refine LeO.bind ?_ (fun _ => ?_)
theorem hinterlandref10_right.mono : ∀ a0 a1 a2 k, LeO (hinterlandref10_right.f k a0 a1 a2) (hinterlandref10_right.f (k + 1) a0 a1 a2) := by
  intro a0 a1 a2 k
  obtain ⟨ih0, ih1, ih2, ih3, ih4⟩ := hinterlandref10_right.mono_l k
  unfold hinterlandref10_right.f
  repeat' first
      | (with_reducible first | exact ih0 _ _ _ _ | exact ih1 _ _ _ _ _ _ | exact ih2 _ _ _ _ _ _ _ | exact ih3 _ _ _ _ _ _ | exact ih4 _ _ _ _ _ _ _ | exact hinterlandref10_Named.mono _ _ | exact LeO.refl _ | exact LeO.none _ | refine LeO.ite ?_ ?_ | refine LeO.bind ?_ (fun _ => ?_))
      | exact ih0 _ _ _ _
      | exact ih1 _ _ _ _ _ _
      | exact ih2 _ _ _ _ _ _ _
      | exact ih3 _ _ _ _ _ _
      | exact ih4 _ _ _ _ _ _ _
      | exact hinterlandref10_Named.mono _ _
      | exact LeO.none _
      | refine LeO.ite ?_ ?_
      | refine LeO.bind ?_ (fun _ => ?_)
set_option maxHeartbeats 8000000 in
set_option maxRecDepth 100000 in
theorem hinterlandref10_right.calls (k : Nat) (a0_0 : ByteArray) (A0_1 : Option Addr) (c0_1 : Nat) (l0_1 : List Int) (A0_2 : Option Addr) (c0_2 : Nat) (l0_2 : List (S41)) (r : Bool) (w : World) (hr0_1 : Kd.C (Kd.int .i64) w A0_1 l0_1.length l0_1) (hc0_1 : l0_1.length ≤ c0_1) (hr0_2 : Kd.C k41 w A0_2 l0_2.length l0_2) (hc0_2 : l0_2.length ≤ c0_2) (h : hinterlandref10_right.f k a0_0 l0_1 l0_2 = some r) :
    Calls Try.prog 48 #[.agg #[.string a0_0, .slice A0_1 l0_1.length c0_1, .slice A0_2 l0_2.length c0_2]] w fun e w' => e = .returned (.bool r) ∧ Below w.heap.size w w' := by
 have hu39 := Try.underlying39
 have hu41 := Try.underlying41
 have HR0_1 := Aside0.mk hr0_1
 have HC0_1 := Aside0.mk hc0_1
 clear hr0_1 hc0_1
 have HR0_2 := Aside0.mk hr0_2
 have HC0_2 := Aside0.mk hc0_2
 clear hr0_2 hc0_2
 have HB := Aside0.mk (Below.refl w.heap.size w)
 have H : ((hinterlandref10_Named.f k a0_0).bind fun t248 => (if t248 = true then (if (l0_1.length : Int) > 4 then (hinterlandref10_right.j0 k true a0_0 l0_1 l0_2) else (hinterlandref10_right.j0 k (decide ((l0_2.length : Int) > 4)) a0_0 l0_1 l0_2)) else (hinterlandref10_right.j0 k true a0_0 l0_1 l0_2))) = some r := h
 clear h
 have HC2 := Aside0.mk H
 clear H
 go_enter Try.func48, Try.ntmps48
 go_upto_region 1 with (first | ((with_reducible refine gate_dst (N := 1) rfl ?_); (try (refine gate_guard (by rfl) ?_; dsimp only)); refine box_event ?hg (N := 1) ?hd (cs := #[.string a0_0, .slice A0_1 l0_1.length c0_1, .slice A0_2 l0_2.length c0_2]) (t := 39) ?hr ?_; (case hd => rfl); (case hg => rfl); (case hr => first | (go_simp; done) | (go_simp; rfl)); intro gb247 hg w3 hbox hb; have BK247 := Aside0.mk (hbox); have GW247 := Aside0.mk ((dS_ hg (dL_ HB) : w.heap.size ≤ gb247)); have GE247 := Aside0.mk ((dS_ hg (dL_ HB) : w.heap.size ≤ gb247)); replace HB := Aside0.mk (below_step (dL_ HB) hb); clear hb hbox hg))
 repeat (go_quiet (first | ((with_reducible refine gate_dst (N := 1) rfl ?_); (try (refine gate_guard (by rfl) ?_; dsimp only)); refine box_event ?hg (N := 1) ?hd (cs := #[.string a0_0, .slice A0_1 l0_1.length c0_1, .slice A0_2 l0_2.length c0_2]) (t := 39) ?hr ?_; (case hd => rfl); (case hg => rfl); (case hr => first | (go_simp; done) | (go_simp; rfl)); intro gb247 hg w3 hbox hb; have BK247 := Aside0.mk (hbox); have GW247 := Aside0.mk ((dS_ hg (dL_ HB) : w.heap.size ≤ gb247)); have GE247 := Aside0.mk ((dS_ hg (dL_ HB) : w.heap.size ≤ gb247)); replace HB := Aside0.mk (below_step (dL_ HB) hb); clear hb hbox hg)); go_upto_region 1 with (first | ((with_reducible refine gate_dst (N := 1) rfl ?_); (try (refine gate_guard (by rfl) ?_; dsimp only)); refine box_event ?hg (N := 1) ?hd (cs := #[.string a0_0, .slice A0_1 l0_1.length c0_1, .slice A0_2 l0_2.length c0_2]) (t := 39) ?hr ?_; (case hd => rfl); (case hg => rfl); (case hr => first | (go_simp; done) | (go_simp; rfl)); intro gb247 hg w3 hbox hb; have BK247 := Aside0.mk (hbox); have GW247 := Aside0.mk ((dS_ hg (dL_ HB) : w.heap.size ≤ gb247)); have GE247 := Aside0.mk ((dS_ hg (dL_ HB) : w.heap.size ≤ gb247)); replace HB := Aside0.mk (below_step (dL_ HB) hb); clear hb hbox hg)))
 (try simp only [Act.put, List.setIfInBounds_toArray, List.set_cons_zero, List.set_cons_succ])
 go_cut [22] (fun v22 wc => ∃ (kq : Nat) (x22_1 : Bool), v22 = .bool x22_1 ∧ Aside0 (hinterlandref10_right.j0 kq x22_1 a0_0 l0_1 l0_2 = some r) ∧ Aside0 (kq ≤ k) ∧ Aside0 (wc.heap[gb247]? = some (.cells #[.string a0_0, (.slice A0_1 l0_1.length c0_1), (.slice A0_2 l0_2.length c0_2)] 39 (0, 0))) ∧ Aside0 (Below w.heap.size w wc))
 case first =>
  have H := HC2.out
  clear HC2
  replace H := Option.bind_eq_some_iff.mp H
  obtain ⟨t248, A40, H⟩ := H
  replace H : (if t248 = true then (if (l0_1.length : Int) > 4 then (hinterlandref10_right.j0 k true a0_0 l0_1 l0_2) else (hinterlandref10_right.j0 k (decide ((l0_2.length : Int) > 4)) a0_0 l0_1 l0_2)) else (hinterlandref10_right.j0 k true a0_0 l0_1 l0_2)) = some r := H
  have A4 := Aside0.mk A40
  clear A40
  by_cases c5 : t248 = true
  ·subst c5
   have H1 : (if (l0_1.length : Int) > 4 then (hinterlandref10_right.j0 k true a0_0 l0_1 l0_2) else (hinterlandref10_right.j0 k (decide ((l0_2.length : Int) > 4)) a0_0 l0_1 l0_2)) = some r := by rw [if_pos rfl] at H; exact H
   clear H
   have H := H1
   clear H1
   by_cases c6 : (l0_1.length : Int) > 4
   ·rw [if_pos c6] at H
    have c6b0 : decide (4 < (l0_1.length : Int)) = true := decide_eq_true c6
    have c6b1 : decide (4 < l0_1.length) = true := decide_eq_true (by omega)
    clear c6
    (first | rw [c6b0] | (simp only [i64_w, i32_w]; rw [c6b0]) | skip)
    have H' := Aside0.mk H
    clear H
    obtain ⟨hcz7_0, hcz7_1, hcz7_2, hfz7_0, hfz7_1, hfz7_2⟩ := cs3_ BK247.out
    go_wp2_with (first | (go_at_call 53; (with_reducible refine (hinterlandref10_Named.calls k a0_0 true _ A4.out).mono ?_); rintro e w' ⟨rfl, ⟨nd, rfl⟩⟩; (try first | exact ⟨rfl, _, World.drewN_drewN _ _ _⟩ | exact ⟨rfl, _, Eq.trans (World.drewN_drewN _ _ _) (congrArg (World.drewN _) (Nat.add_assoc _ _ _))⟩)))
    repeat (go_quiet (first | (go_at_call 53; (with_reducible refine (hinterlandref10_Named.calls k a0_0 true _ A4.out).mono ?_); rintro e w' ⟨rfl, ⟨nd, rfl⟩⟩; (try first | exact ⟨rfl, _, World.drewN_drewN _ _ _⟩ | exact ⟨rfl, _, Eq.trans (World.drewN_drewN _ _ _) (congrArg (World.drewN _) (Nat.add_assoc _ _ _))⟩))); try go_wp2_with (first | (go_at_call 53; (with_reducible refine (hinterlandref10_Named.calls k a0_0 true _ A4.out).mono ?_); rintro e w' ⟨rfl, ⟨nd, rfl⟩⟩; (try first | exact ⟨rfl, _, World.drewN_drewN _ _ _⟩ | exact ⟨rfl, _, Eq.trans (World.drewN_drewN _ _ _) (congrArg (World.drewN _) (Nat.add_assoc _ _ _))⟩))))
    go_meet
    case rel => exact ⟨_, (true), tS_, H', ⟨by first | omega | exact Nat.le_refl _⟩, ⟨dB_ BK247⟩, ⟨dL1_ HB GE247⟩⟩
   ·rw [if_neg c6] at H
    have c6b0 : decide (4 < (l0_1.length : Int)) = false := decide_eq_false c6
    have c6b1 : decide (4 < l0_1.length) = false := decide_eq_false (by omega)
    clear c6
    (first | rw [c6b0] | (simp only [i64_w, i32_w]; rw [c6b0]) | skip)
    have H' := Aside0.mk H
    clear H
    obtain ⟨hcz8_0, hcz8_1, hcz8_2, hfz8_0, hfz8_1, hfz8_2⟩ := cs3_ BK247.out
    go_wp2_with (first | (go_at_call 53; (with_reducible refine (hinterlandref10_Named.calls k a0_0 true _ A4.out).mono ?_); rintro e w' ⟨rfl, ⟨nd, rfl⟩⟩; (try first | exact ⟨rfl, _, World.drewN_drewN _ _ _⟩ | exact ⟨rfl, _, Eq.trans (World.drewN_drewN _ _ _) (congrArg (World.drewN _) (Nat.add_assoc _ _ _))⟩)))
    repeat (go_quiet (first | (go_at_call 53; (with_reducible refine (hinterlandref10_Named.calls k a0_0 true _ A4.out).mono ?_); rintro e w' ⟨rfl, ⟨nd, rfl⟩⟩; (try first | exact ⟨rfl, _, World.drewN_drewN _ _ _⟩ | exact ⟨rfl, _, Eq.trans (World.drewN_drewN _ _ _) (congrArg (World.drewN _) (Nat.add_assoc _ _ _))⟩))); try go_wp2_with (first | (go_at_call 53; (with_reducible refine (hinterlandref10_Named.calls k a0_0 true _ A4.out).mono ?_); rintro e w' ⟨rfl, ⟨nd, rfl⟩⟩; (try first | exact ⟨rfl, _, World.drewN_drewN _ _ _⟩ | exact ⟨rfl, _, Eq.trans (World.drewN_drewN _ _ _) (congrArg (World.drewN _) (Nat.add_assoc _ _ _))⟩))))
    go_meet
    case rel => exact ⟨_, (decide ((l0_2.length : Int) > 4)), tS_, H', ⟨by first | omega | exact Nat.le_refl _⟩, ⟨dB_ BK247⟩, ⟨dL1_ HB GE247⟩⟩
  ·replace c5 := Bool.eq_false_iff.mpr c5
   subst c5
   have H1 : (hinterlandref10_right.j0 k true a0_0 l0_1 l0_2) = some r := by rw [if_neg (show ¬ (false = true) by decide)] at H; exact H
   clear H
   have H := H1
   clear H1
   have H' := Aside0.mk H
   clear H
   obtain ⟨hcz9_0, hcz9_1, hcz9_2, hfz9_0, hfz9_1, hfz9_2⟩ := cs3_ BK247.out
   go_wp2_with (first | (go_at_call 53; (with_reducible refine (hinterlandref10_Named.calls k a0_0 false _ A4.out).mono ?_); rintro e w' ⟨rfl, ⟨nd, rfl⟩⟩; (try first | exact ⟨rfl, _, World.drewN_drewN _ _ _⟩ | exact ⟨rfl, _, Eq.trans (World.drewN_drewN _ _ _) (congrArg (World.drewN _) (Nat.add_assoc _ _ _))⟩)))
   repeat (go_quiet (first | (go_at_call 53; (with_reducible refine (hinterlandref10_Named.calls k a0_0 false _ A4.out).mono ?_); rintro e w' ⟨rfl, ⟨nd, rfl⟩⟩; (try first | exact ⟨rfl, _, World.drewN_drewN _ _ _⟩ | exact ⟨rfl, _, Eq.trans (World.drewN_drewN _ _ _) (congrArg (World.drewN _) (Nat.add_assoc _ _ _))⟩))); try go_wp2_with (first | (go_at_call 53; (with_reducible refine (hinterlandref10_Named.calls k a0_0 false _ A4.out).mono ?_); rintro e w' ⟨rfl, ⟨nd, rfl⟩⟩; (try first | exact ⟨rfl, _, World.drewN_drewN _ _ _⟩ | exact ⟨rfl, _, Eq.trans (World.drewN_drewN _ _ _) (congrArg (World.drewN _) (Nat.add_assoc _ _ _))⟩))))
   go_meet
   case rel => exact ⟨_, (true), tS_, H', ⟨by first | omega | exact Nat.le_refl _⟩, ⟨dB_ BK247⟩, ⟨dL1_ HB GE247⟩⟩
 case rest =>
  clear HC2
  try clear c6
  obtain ⟨kq, x22_1, rfl, HA, HJ1, BK247, HB⟩ := hcut
  cases kq with
  | zero => exact absurd HA.out (by simp [hinterlandref10_right.j0])
  | succ kj1 =>
   have H := HA.out
   clear HA
   simp only [hinterlandref10_right.j0] at H
   by_cases c10 : x22_1 = true
   ·subst c10
    have H1 : (some false) = some r := by rw [if_pos rfl] at H; exact H
    clear H
    have H := H1
    clear H1
    obtain rfl := Option.some.inj H
    go_wp2
    repeat (go_quiet (fail); try go_wp2)
    go_ret
    exact ⟨tE_, dL1_ HB GE247⟩
   ·replace c10 := Bool.eq_false_iff.mpr c10
    subst c10
    have H1 : (hinterlandref10_right.l0 kj1 l0_1 (l0_1.length : Int) 0 a0_0 l0_1 l0_2) = some r := by rw [if_neg (show ¬ (false = true) by decide)] at H; exact H
    clear H
    have H := H1
    clear H1
    have H' := Aside0.mk H
    clear H
    obtain ⟨hcz11_0, hcz11_1, hcz11_2, hfz11_0, hfz11_1, hfz11_2⟩ := cs3_ BK247.out
    go_wp2
    repeat (go_quiet (fail); try go_wp2)
    go_loopg [26] kj1 (fun kq v26 w' => ∃ (x26_2 : Int), v26 = .int .i64 x26_2 ∧ Aside0 (hinterlandref10_right.l0 kq l0_1 (l0_1.length : Int) x26_2 a0_0 l0_1 l0_2 = some r) ∧ Aside0 (kq ≤ kj1) ∧ Aside0 (w'.heap[gb247]? = some (.cells #[.string a0_0, (.slice A0_1 l0_1.length c0_1), (.slice A0_2 l0_2.length c0_2)] 39 (0, 0))) ∧ Aside0 (Below w.heap.size w w'))
    case atStart => exact ⟨(0), tS_, H', ⟨Nat.le_refl _⟩, ⟨dB_ BK247⟩, ⟨dL1_ HB GE247⟩⟩
    case round =>
     clear H'
     try clear c6
     try clear c10
     try clear hcz11_0
     try clear hcz11_1
     try clear hcz11_2
     try clear hfz11_0
     try clear hfz11_1
     try clear hfz11_2
     obtain ⟨x26_2, rfl, HA, HK2, BK247, HB⟩ := hrel
     cases gk with
     | zero => exact absurd HA.out (by simp [hinterlandref10_right.l0])
     | succ k2 =>
      have H := HA.out
      clear HA
      simp only [hinterlandref10_right.l0] at H
      by_cases c12 : x26_2 < (l0_1.length : Int)
      ·rw [if_pos c12] at H
       have c12b0 : decide (x26_2 < (l0_1.length : Int)) = true := decide_eq_true c12
       clear c12
       by_cases c13 : 0 ≤ x26_2
       ·rw [if_pos c13] at H
        have c13b0 : decide (0 ≤ x26_2) = true := decide_eq_true c13
        clear c13
        by_cases c14 : x26_2 < (l0_1.length : Int)
        ·rw [if_pos c14] at H
         have c14b0 : decide (x26_2 < (l0_1.length : Int)) = true := decide_eq_true c14
         clear c14
         have HC15 := Aside0.mk H
         clear H
         have p249 : 0 ≤ (x26_2 : Int) := of_decide_eq_true tW_
         have q249 : x26_2 < (l0_1.length : Int) := of_decide_eq_true tW_
         obtain ⟨ad249, e249, hx249_0⟩ := Kd.at_int HR0_1.out x26_2 p249 q249
         cases e249
         replace hx249_0 := bc_ HB hx249_0
         replace p249 := eq_true p249
         replace q249 := eq_true q249
         go_upto_region 6 with (fail)
         repeat (go_quiet (fail); go_upto_region 6 with (fail))
         go_cut [47] (fun v47 wc => ∃ (kq : Nat) (x47_14 : Bool), v47 = .bool x47_14 ∧ Aside0 (hinterlandref10_right.j2 kq l0_1 (l0_1.length : Int) x26_2 x47_14 a0_0 l0_1 l0_2 = some r) ∧ Aside0 (kq ≤ k2) ∧ Aside0 (wc.heap[gb247]? = some (.cells #[.string a0_0, (.slice (some ad249) l0_1.length c0_1), (.slice A0_2 l0_2.length c0_2)] 39 (0, 0))) ∧ Aside0 (Below w.heap.size w wc))
         case first =>
          have H := HC15.out
          clear HC15
          replace H := Option.bind_eq_some_iff.mp H
          obtain ⟨t250, A160, H⟩ := H
          replace H : (if t250 = true then (if x26_2 > 0 then (if 0 ≤ (wrap64 (x26_2 - 1)) then (if (wrap64 (x26_2 - 1)) < (l0_1.length : Int) then (hinterlandref10_right.j2 k2 l0_1 (l0_1.length : Int) x26_2 (decide ((rd l0_1 (wrap64 (x26_2 - 1))) ≥ (rd l0_1 x26_2))) a0_0 l0_1 l0_2) else (none)) else (none)) else (hinterlandref10_right.j2 k2 l0_1 (l0_1.length : Int) x26_2 false a0_0 l0_1 l0_2)) else (hinterlandref10_right.j2 k2 l0_1 (l0_1.length : Int) x26_2 true a0_0 l0_1 l0_2)) = some r := H
          have A16 := Aside0.mk A160
          clear A160
          by_cases c17 : t250 = true
          ·subst c17
           have H1 : (if x26_2 > 0 then (if 0 ≤ (wrap64 (x26_2 - 1)) then (if (wrap64 (x26_2 - 1)) < (l0_1.length : Int) then (hinterlandref10_right.j2 k2 l0_1 (l0_1.length : Int) x26_2 (decide ((rd l0_1 (wrap64 (x26_2 - 1))) ≥ (rd l0_1 x26_2))) a0_0 l0_1 l0_2) else (none)) else (none)) else (hinterlandref10_right.j2 k2 l0_1 (l0_1.length : Int) x26_2 false a0_0 l0_1 l0_2)) = some r := by rw [if_pos rfl] at H; exact H
           clear H
           have H := H1
           clear H1
           by_cases c18 : x26_2 > 0
           ·rw [if_pos c18] at H
            have c18b0 : decide (0 < x26_2) = true := decide_eq_true c18
            clear c18
            (first | rw [c18b0] | (simp only [i64_w, i32_w]; rw [c18b0]) | skip)
            obtain ⟨ji19, hji19⟩ : ∃ j_ : Int, (wrap64 (x26_2 - 1)) = j_ := ⟨_, rfl⟩
            replace H : (if 0 ≤ (ji19) then (if (ji19) < (l0_1.length : Int) then (hinterlandref10_right.j2 k2 l0_1 (l0_1.length : Int) x26_2 (decide ((rd l0_1 (ji19)) ≥ (rd l0_1 x26_2))) a0_0 l0_1 l0_2) else (none)) else (none)) = some r := by first | (rw [hji19] at H; exact H) | (simp only [hji19] at H ⊢; exact H)
            (try rw [hji19] at A16)
            have hji19w : (IntKind.i64.wrap (x26_2 - 1)) = ji19 := (i64_w _).trans hji19
            by_cases c20 : 0 ≤ (ji19)
            ·rw [if_pos c20] at H
             have c20b0 : decide (0 ≤ (ji19)) = true := decide_eq_true c20
             clear c20
             by_cases c21 : (ji19) < (l0_1.length : Int)
             ·rw [if_pos c21] at H
              have c21b0 : decide ((ji19) < (l0_1.length : Int)) = true := decide_eq_true c21
              clear c21
              have H' := Aside0.mk H
              clear H
              go_wp2_with (first | (go_at_call 36; (with_reducible refine (hinterlandref10_within.calls (rd l0_1 x26_2) 0 15 true _ A16.out).mono ?_); rintro e w' ⟨rfl, ⟨nd, rfl⟩⟩; (try first | exact ⟨rfl, _, World.drewN_drewN _ _ _⟩ | exact ⟨rfl, _, Eq.trans (World.drewN_drewN _ _ _) (congrArg (World.drewN _) (Nat.add_assoc _ _ _))⟩); obtain ⟨hcz22_0, hcz22_1, hcz22_2, hfz22_0, hfz22_1, hfz22_2⟩ := cs3_ BK247.out; have p251 : 0 ≤ ((ji19) : Int) := of_decide_eq_true tW_; have q251 : (ji19) < (l0_1.length : Int) := of_decide_eq_true tW_; obtain ⟨ad251, e251, hx251_0⟩ := Kd.at_int HR0_1.out (ji19) p251 q251; obtain rfl : ad249 = ad251 := (by injection e251); replace hx251_0 := bc_ HB hx251_0; replace p251 := eq_true p251; replace q251 := eq_true q251))
              repeat (go_quiet (first | (go_at_call 36; (with_reducible refine (hinterlandref10_within.calls (rd l0_1 x26_2) 0 15 true _ A16.out).mono ?_); rintro e w' ⟨rfl, ⟨nd, rfl⟩⟩; (try first | exact ⟨rfl, _, World.drewN_drewN _ _ _⟩ | exact ⟨rfl, _, Eq.trans (World.drewN_drewN _ _ _) (congrArg (World.drewN _) (Nat.add_assoc _ _ _))⟩); obtain ⟨hcz22_0, hcz22_1, hcz22_2, hfz22_0, hfz22_1, hfz22_2⟩ := cs3_ BK247.out; have p251 : 0 ≤ ((ji19) : Int) := of_decide_eq_true tW_; have q251 : (ji19) < (l0_1.length : Int) := of_decide_eq_true tW_; obtain ⟨ad251, e251, hx251_0⟩ := Kd.at_int HR0_1.out (ji19) p251 q251; obtain rfl : ad249 = ad251 := (by injection e251); replace hx251_0 := bc_ HB hx251_0; replace p251 := eq_true p251; replace q251 := eq_true q251)); try go_wp2_with (first | (go_at_call 36; (with_reducible refine (hinterlandref10_within.calls (rd l0_1 x26_2) 0 15 true _ A16.out).mono ?_); rintro e w' ⟨rfl, ⟨nd, rfl⟩⟩; (try first | exact ⟨rfl, _, World.drewN_drewN _ _ _⟩ | exact ⟨rfl, _, Eq.trans (World.drewN_drewN _ _ _) (congrArg (World.drewN _) (Nat.add_assoc _ _ _))⟩); obtain ⟨hcz22_0, hcz22_1, hcz22_2, hfz22_0, hfz22_1, hfz22_2⟩ := cs3_ BK247.out; have p251 : 0 ≤ ((ji19) : Int) := of_decide_eq_true tW_; have q251 : (ji19) < (l0_1.length : Int) := of_decide_eq_true tW_; obtain ⟨ad251, e251, hx251_0⟩ := Kd.at_int HR0_1.out (ji19) p251 q251; obtain rfl : ad249 = ad251 := (by injection e251); replace hx251_0 := bc_ HB hx251_0; replace p251 := eq_true p251; replace q251 := eq_true q251)))
              go_meet
              case rel => exact ⟨_, (decide ((rd l0_1 (ji19)) ≥ (rd l0_1 x26_2))), (by first | rfl | (simp; done) | (simp only [← hji19]; rw [shl_one_small _ (by assumption) (by omega)]; done) | (simp only [← hji19] <;> (first | rfl | simp)) | (simp [*]; done) | (refine congrArg (Value.int .i64) ?_; unfold wrap64; omega) | (simp only [shl_one_small _ (by assumption) (by omega)]; done) | (simp [*]; rw [shl_one_small _ (by assumption) (by omega)]; done)), H', ⟨by have := HJ1.out; have := HK2.out; first | omega | exact Nat.le_refl _⟩, ⟨dB_ BK247⟩, ⟨dL1_ HB GE247⟩⟩
             ·rw [if_neg c21] at H
              exact absurd H (by simp)
            ·rw [if_neg c20] at H
             exact absurd H (by simp)
           ·rw [if_neg c18] at H
            have c18b0 : decide (0 < x26_2) = false := decide_eq_false c18
            clear c18
            (first | rw [c18b0] | (simp only [i64_w, i32_w]; rw [c18b0]) | skip)
            have H' := Aside0.mk H
            clear H
            go_wp2_with (first | (go_at_call 36; (with_reducible refine (hinterlandref10_within.calls (rd l0_1 x26_2) 0 15 true _ A16.out).mono ?_); rintro e w' ⟨rfl, ⟨nd, rfl⟩⟩; (try first | exact ⟨rfl, _, World.drewN_drewN _ _ _⟩ | exact ⟨rfl, _, Eq.trans (World.drewN_drewN _ _ _) (congrArg (World.drewN _) (Nat.add_assoc _ _ _))⟩)))
            repeat (go_quiet (first | (go_at_call 36; (with_reducible refine (hinterlandref10_within.calls (rd l0_1 x26_2) 0 15 true _ A16.out).mono ?_); rintro e w' ⟨rfl, ⟨nd, rfl⟩⟩; (try first | exact ⟨rfl, _, World.drewN_drewN _ _ _⟩ | exact ⟨rfl, _, Eq.trans (World.drewN_drewN _ _ _) (congrArg (World.drewN _) (Nat.add_assoc _ _ _))⟩))); try go_wp2_with (first | (go_at_call 36; (with_reducible refine (hinterlandref10_within.calls (rd l0_1 x26_2) 0 15 true _ A16.out).mono ?_); rintro e w' ⟨rfl, ⟨nd, rfl⟩⟩; (try first | exact ⟨rfl, _, World.drewN_drewN _ _ _⟩ | exact ⟨rfl, _, Eq.trans (World.drewN_drewN _ _ _) (congrArg (World.drewN _) (Nat.add_assoc _ _ _))⟩))))
            go_meet
            case rel => exact ⟨_, (false), tS_, H', ⟨by have := HJ1.out; have := HK2.out; first | omega | exact Nat.le_refl _⟩, ⟨dB_ BK247⟩, ⟨dL1_ HB GE247⟩⟩
          ·replace c17 := Bool.eq_false_iff.mpr c17
           subst c17
           have H1 : (hinterlandref10_right.j2 k2 l0_1 (l0_1.length : Int) x26_2 true a0_0 l0_1 l0_2) = some r := by rw [if_neg (show ¬ (false = true) by decide)] at H; exact H
           clear H
           have H := H1
           clear H1
           have H' := Aside0.mk H
           clear H
           go_wp2_with (first | (go_at_call 36; (with_reducible refine (hinterlandref10_within.calls (rd l0_1 x26_2) 0 15 false _ A16.out).mono ?_); rintro e w' ⟨rfl, ⟨nd, rfl⟩⟩; (try first | exact ⟨rfl, _, World.drewN_drewN _ _ _⟩ | exact ⟨rfl, _, Eq.trans (World.drewN_drewN _ _ _) (congrArg (World.drewN _) (Nat.add_assoc _ _ _))⟩)))
           repeat (go_quiet (first | (go_at_call 36; (with_reducible refine (hinterlandref10_within.calls (rd l0_1 x26_2) 0 15 false _ A16.out).mono ?_); rintro e w' ⟨rfl, ⟨nd, rfl⟩⟩; (try first | exact ⟨rfl, _, World.drewN_drewN _ _ _⟩ | exact ⟨rfl, _, Eq.trans (World.drewN_drewN _ _ _) (congrArg (World.drewN _) (Nat.add_assoc _ _ _))⟩))); try go_wp2_with (first | (go_at_call 36; (with_reducible refine (hinterlandref10_within.calls (rd l0_1 x26_2) 0 15 false _ A16.out).mono ?_); rintro e w' ⟨rfl, ⟨nd, rfl⟩⟩; (try first | exact ⟨rfl, _, World.drewN_drewN _ _ _⟩ | exact ⟨rfl, _, Eq.trans (World.drewN_drewN _ _ _) (congrArg (World.drewN _) (Nat.add_assoc _ _ _))⟩))))
           go_meet
           case rel => exact ⟨_, (true), tS_, H', ⟨by have := HJ1.out; have := HK2.out; first | omega | exact Nat.le_refl _⟩, ⟨dB_ BK247⟩, ⟨dL1_ HB GE247⟩⟩
         case rest =>
          clear HC15
          try clear c6
          try clear c10
          try clear c12
          try clear c12b0
          try clear c13
          try clear c13b0
          try clear c14
          try clear c14b0
          try clear c18
          try clear c20
          try clear c21
          try clear hcz11_0
          try clear hcz11_1
          try clear hcz11_2
          try clear hfz11_0
          try clear hfz11_1
          try clear hfz11_2
          try clear hx249_0
          try clear p249
          try clear q249
          obtain ⟨kq, x47_14, rfl, HA, HJ14, BK247, HB⟩ := hcut
          cases kq with
          | zero => exact absurd HA.out (by simp [hinterlandref10_right.j2])
          | succ kj14 =>
           have H := HA.out
           clear HA
           simp only [hinterlandref10_right.j2] at H
           by_cases c23 : x47_14 = true
           ·subst c23
            have H1 : (some false) = some r := by rw [if_pos rfl] at H; exact H
            clear H
            have H := H1
            clear H1
            obtain rfl := Option.some.inj H
            go_wp2
            repeat (go_quiet (fail); try go_wp2)
            go_ret
            exact ⟨tE_, dL1_ HB GE247⟩
           ·replace c23 := Bool.eq_false_iff.mpr c23
            subst c23
            have H1 : (hinterlandref10_right.l0 kj14 l0_1 (l0_1.length : Int) (wrap64 (x26_2 + 1)) a0_0 l0_1 l0_2) = some r := by rw [if_neg (show ¬ (false = true) by decide)] at H; exact H
            clear H
            have H := H1
            clear H1
            have H' := Aside0.mk H
            clear H
            go_wp2
            repeat (go_quiet (fail); try go_wp2)
            go_roundg kj14
            case measure => have := HJ1.out; have := HK2.out; have := HJ14.out; omega
            case rel => exact ⟨(wrap64 (x26_2 + 1)), tS_, H', ⟨by have := HJ1.out; have := HK2.out; have := HJ14.out; omega⟩, ⟨dB_ BK247⟩, ⟨dL1_ HB GE247⟩⟩
        ·rw [if_neg c14] at H
         exact absurd H (by simp)
       ·rw [if_neg c13] at H
        exact absurd H (by simp)
      ·rw [if_neg c12] at H
       have c12b0 : decide (x26_2 < (l0_1.length : Int)) = false := decide_eq_false c12
       clear c12
       have H' := Aside0.mk H
       clear H
       obtain ⟨hcz24_0, hcz24_1, hcz24_2, hfz24_0, hfz24_1, hfz24_2⟩ := cs3_ BK247.out
       go_wp2
       repeat (go_quiet (fail); try go_wp2)
       go_loopg [52] k2 (fun kq v52 w' => ∃ (x52_3 : Int), v52 = .int .i64 x52_3 ∧ Aside0 (hinterlandref10_right.l1 kq l0_2 (l0_2.length : Int) x52_3 a0_0 l0_1 l0_2 = some r) ∧ Aside0 (kq ≤ k2) ∧ Aside0 (w'.heap[gb247]? = some (.cells #[.string a0_0, (.slice A0_1 l0_1.length c0_1), (.slice A0_2 l0_2.length c0_2)] 39 (0, 0))) ∧ Aside0 (Below w.heap.size w w'))
       case atStart => exact ⟨(0), tS_, H', ⟨Nat.le_refl _⟩, ⟨dB_ BK247⟩, ⟨dL1_ HB GE247⟩⟩
       case round =>
        clear H'
        try clear c6
        try clear c10
        try clear c12
        try clear c12b0
        try clear c13
        try clear c14
        try clear c18
        try clear c20
        try clear c21
        try clear hcz11_0
        try clear hcz11_1
        try clear hcz11_2
        try clear hcz24_0
        try clear hcz24_1
        try clear hcz24_2
        try clear hfz11_0
        try clear hfz11_1
        try clear hfz11_2
        try clear hfz24_0
        try clear hfz24_1
        try clear hfz24_2
        obtain ⟨x52_3, rfl, HA, HK3, BK247, HB⟩ := hrel
        cases gk with
        | zero => exact absurd HA.out (by simp [hinterlandref10_right.l1])
        | succ k3 =>
         have H := HA.out
         clear HA
         simp only [hinterlandref10_right.l1] at H
         by_cases c25 : x52_3 < (l0_2.length : Int)
         ·rw [if_pos c25] at H
          have c25b0 : decide (x52_3 < (l0_2.length : Int)) = true := decide_eq_true c25
          clear c25
          by_cases c26 : 0 ≤ x52_3
          ·rw [if_pos c26] at H
           have c26b0 : decide (0 ≤ x52_3) = true := decide_eq_true c26
           clear c26
           by_cases c27 : x52_3 < (l0_2.length : Int)
           ·rw [if_pos c27] at H
            have c27b0 : decide (x52_3 < (l0_2.length : Int)) = true := decide_eq_true c27
            clear c27
            have HC28 := Aside0.mk H
            clear H
            have p252 : 0 ≤ (x52_3 : Int) := of_decide_eq_true tW_
            have q252 : x52_3 < (l0_2.length : Int) := of_decide_eq_true tW_
            obtain ⟨ad252, e252, hx252_0, hx252_1⟩ := at_T41 HR0_2.out x52_3 p252 q252
            cases e252
            replace hx252_0 := bc_ HB hx252_0
            replace hx252_1 := bc_ HB hx252_1
            replace p252 := eq_true p252
            replace q252 := eq_true q252
            go_upto_region 12 with (first | ((with_reducible refine gate_dst (N := 6) rfl ?_); (try (refine gate_guard (by rfl) ?_; dsimp only)); refine box_event ?hg (N := 6) ?hd (cs := #[.int .i64 0, .int .i64 0]) (t := 41) ?hr ?_; (case hd => rfl); (case hg => rfl); (case hr => first | (go_simp; done) | (go_simp; rfl)); intro gb253 hg w29 hbox hb; have BK253 := Aside0.mk (hbox); have GW253 := Aside0.mk ((dS_ hg (dL1_ HB GE247) : w.heap.size ≤ gb253)); have GE253 := Aside0.mk ((dS_ hg (dL1_ HB GE247) : w.heap.size ≤ gb253)); replace HB := Aside0.mk (below_step (dL1_ HB GE247) hb); have NB247_253 := Aside0.mk ((by rw [hg]; exact Nat.ne_of_lt (blk_lt (dB_ BK247)) : gb247 ≠ gb253)); have NB253_247 := Aside0.mk ((by rw [hg]; exact Nat.ne_of_gt (blk_lt (dB_ BK247)) : gb253 ≠ gb247)); replace BK247 := Aside0.mk (blk_below (g := gb247) (o := .cells #[.string a0_0, .slice A0_1 l0_1.length c0_1, .slice (some ad252) l0_2.length c0_2] 39 (0, 0)) (dB_ BK247) hb); clear hb hbox hg; have hnb30 := NB253_247.out; have hnc30 := NB247_253.out; obtain ⟨hcz31_0, hcz31_1, hfz31_0, hfz31_1⟩ := cs2_ BK253.out))
            repeat (go_quiet (first | ((with_reducible refine gate_dst (N := 6) rfl ?_); (try (refine gate_guard (by rfl) ?_; dsimp only)); refine box_event ?hg (N := 6) ?hd (cs := #[.int .i64 0, .int .i64 0]) (t := 41) ?hr ?_; (case hd => rfl); (case hg => rfl); (case hr => first | (go_simp; done) | (go_simp; rfl)); intro gb253 hg w29 hbox hb; have BK253 := Aside0.mk (hbox); have GW253 := Aside0.mk ((dS_ hg (dL1_ HB GE247) : w.heap.size ≤ gb253)); have GE253 := Aside0.mk ((dS_ hg (dL1_ HB GE247) : w.heap.size ≤ gb253)); replace HB := Aside0.mk (below_step (dL1_ HB GE247) hb); have NB247_253 := Aside0.mk ((by rw [hg]; exact Nat.ne_of_lt (blk_lt (dB_ BK247)) : gb247 ≠ gb253)); have NB253_247 := Aside0.mk ((by rw [hg]; exact Nat.ne_of_gt (blk_lt (dB_ BK247)) : gb253 ≠ gb247)); replace BK247 := Aside0.mk (blk_below (g := gb247) (o := .cells #[.string a0_0, .slice A0_1 l0_1.length c0_1, .slice (some ad252) l0_2.length c0_2] 39 (0, 0)) (dB_ BK247) hb); clear hb hbox hg; have hnb30 := NB253_247.out; have hnc30 := NB247_253.out; obtain ⟨hcz31_0, hcz31_1, hfz31_0, hfz31_1⟩ := cs2_ BK253.out)); go_upto_region 12 with (first | ((with_reducible refine gate_dst (N := 6) rfl ?_); (try (refine gate_guard (by rfl) ?_; dsimp only)); refine box_event ?hg (N := 6) ?hd (cs := #[.int .i64 0, .int .i64 0]) (t := 41) ?hr ?_; (case hd => rfl); (case hg => rfl); (case hr => first | (go_simp; done) | (go_simp; rfl)); intro gb253 hg w29 hbox hb; have BK253 := Aside0.mk (hbox); have GW253 := Aside0.mk ((dS_ hg (dL1_ HB GE247) : w.heap.size ≤ gb253)); have GE253 := Aside0.mk ((dS_ hg (dL1_ HB GE247) : w.heap.size ≤ gb253)); replace HB := Aside0.mk (below_step (dL1_ HB GE247) hb); have NB247_253 := Aside0.mk ((by rw [hg]; exact Nat.ne_of_lt (blk_lt (dB_ BK247)) : gb247 ≠ gb253)); have NB253_247 := Aside0.mk ((by rw [hg]; exact Nat.ne_of_gt (blk_lt (dB_ BK247)) : gb253 ≠ gb247)); replace BK247 := Aside0.mk (blk_below (g := gb247) (o := .cells #[.string a0_0, .slice A0_1 l0_1.length c0_1, .slice (some ad252) l0_2.length c0_2] 39 (0, 0)) (dB_ BK247) hb); clear hb hbox hg; have hnb30 := NB253_247.out; have hnc30 := NB247_253.out; obtain ⟨hcz31_0, hcz31_1, hfz31_0, hfz31_1⟩ := cs2_ BK253.out)))
            (try simp only [Act.put, List.setIfInBounds_toArray, List.set_cons_zero, List.set_cons_succ])
            go_cut [82] (fun v82 wc => ∃ (kq : Nat) (x82_27 : Bool), v82 = .bool x82_27 ∧ Aside0 (hinterlandref10_right.j4 kq l0_2 (l0_2.length : Int) x52_3 x82_27 a0_0 l0_1 l0_2 = some r) ∧ Aside0 (kq ≤ k3) ∧ Aside0 (wc.heap[gb247]? = some (.cells #[.string a0_0, (.slice A0_1 l0_1.length c0_1), (.slice (some ad252) l0_2.length c0_2)] 39 (0, 0))) ∧ Aside0 (wc.heap[gb253]? = some (.cells #[.int .i64 ((rd_T41 l0_2 x52_3).f0), .int .i64 ((rd_T41 l0_2 x52_3).f1)] 41 (0, 0))) ∧ Aside0 (Below w.heap.size w wc))
            case first =>
             have H := HC28.out
             clear HC28
             replace H := Option.bind_eq_some_iff.mp H
             obtain ⟨t254, A320, H⟩ := H
             replace H : (if t254 = true then ((hinterlandref10_within.f ((rd_T41 l0_2 x52_3).f1) 1 1000).bind fun t255 => (if t255 = true then (if x52_3 > 0 then (if 0 ≤ (wrap64 (x52_3 - 1)) then (if (wrap64 (x52_3 - 1)) < (l0_2.length : Int) then (hinterlandref10_right.j4 k3 l0_2 (l0_2.length : Int) x52_3 (decide (((rd_T41 l0_2 (wrap64 (x52_3 - 1))).f0) ≥ ((rd_T41 l0_2 x52_3).f0))) a0_0 l0_1 l0_2) else (none)) else (none)) else (hinterlandref10_right.j4 k3 l0_2 (l0_2.length : Int) x52_3 false a0_0 l0_1 l0_2)) else (hinterlandref10_right.j4 k3 l0_2 (l0_2.length : Int) x52_3 true a0_0 l0_1 l0_2))) else (hinterlandref10_right.j4 k3 l0_2 (l0_2.length : Int) x52_3 true a0_0 l0_1 l0_2)) = some r := H
             have A32 := Aside0.mk A320
             clear A320
             by_cases c33 : t254 = true
             ·subst c33
              have H1 : ((hinterlandref10_within.f ((rd_T41 l0_2 x52_3).f1) 1 1000).bind fun t255 => (if t255 = true then (if x52_3 > 0 then (if 0 ≤ (wrap64 (x52_3 - 1)) then (if (wrap64 (x52_3 - 1)) < (l0_2.length : Int) then (hinterlandref10_right.j4 k3 l0_2 (l0_2.length : Int) x52_3 (decide (((rd_T41 l0_2 (wrap64 (x52_3 - 1))).f0) ≥ ((rd_T41 l0_2 x52_3).f0))) a0_0 l0_1 l0_2) else (none)) else (none)) else (hinterlandref10_right.j4 k3 l0_2 (l0_2.length : Int) x52_3 false a0_0 l0_1 l0_2)) else (hinterlandref10_right.j4 k3 l0_2 (l0_2.length : Int) x52_3 true a0_0 l0_1 l0_2))) = some r := by rw [if_pos rfl] at H; exact H
              clear H
              have H := H1
              clear H1
              replace H := Option.bind_eq_some_iff.mp H
              obtain ⟨t255, A340, H⟩ := H
              replace H : (if t255 = true then (if x52_3 > 0 then (if 0 ≤ (wrap64 (x52_3 - 1)) then (if (wrap64 (x52_3 - 1)) < (l0_2.length : Int) then (hinterlandref10_right.j4 k3 l0_2 (l0_2.length : Int) x52_3 (decide (((rd_T41 l0_2 (wrap64 (x52_3 - 1))).f0) ≥ ((rd_T41 l0_2 x52_3).f0))) a0_0 l0_1 l0_2) else (none)) else (none)) else (hinterlandref10_right.j4 k3 l0_2 (l0_2.length : Int) x52_3 false a0_0 l0_1 l0_2)) else (hinterlandref10_right.j4 k3 l0_2 (l0_2.length : Int) x52_3 true a0_0 l0_1 l0_2)) = some r := H
              have A34 := Aside0.mk A340
              clear A340
              by_cases c35 : t255 = true
              ·subst c35
               have H1 : (if x52_3 > 0 then (if 0 ≤ (wrap64 (x52_3 - 1)) then (if (wrap64 (x52_3 - 1)) < (l0_2.length : Int) then (hinterlandref10_right.j4 k3 l0_2 (l0_2.length : Int) x52_3 (decide (((rd_T41 l0_2 (wrap64 (x52_3 - 1))).f0) ≥ ((rd_T41 l0_2 x52_3).f0))) a0_0 l0_1 l0_2) else (none)) else (none)) else (hinterlandref10_right.j4 k3 l0_2 (l0_2.length : Int) x52_3 false a0_0 l0_1 l0_2)) = some r := by rw [if_pos rfl] at H; exact H
               clear H
               have H := H1
               clear H1
               by_cases c36 : x52_3 > 0
               ·rw [if_pos c36] at H
                have c36b0 : decide (0 < x52_3) = true := decide_eq_true c36
                clear c36
                (first | rw [c36b0] | (simp only [i64_w, i32_w]; rw [c36b0]) | skip)
                obtain ⟨ji37, hji37⟩ : ∃ j_ : Int, (wrap64 (x52_3 - 1)) = j_ := ⟨_, rfl⟩
                replace H : (if 0 ≤ (ji37) then (if (ji37) < (l0_2.length : Int) then (hinterlandref10_right.j4 k3 l0_2 (l0_2.length : Int) x52_3 (decide (((rd_T41 l0_2 (ji37)).f0) ≥ ((rd_T41 l0_2 x52_3).f0))) a0_0 l0_1 l0_2) else (none)) else (none)) = some r := by first | (rw [hji37] at H; exact H) | (simp only [hji37] at H ⊢; exact H)
                (try rw [hji37] at A32)
                (try rw [hji37] at A34)
                have hji37w : (IntKind.i64.wrap (x52_3 - 1)) = ji37 := (i64_w _).trans hji37
                by_cases c38 : 0 ≤ (ji37)
                ·rw [if_pos c38] at H
                 have c38b0 : decide (0 ≤ (ji37)) = true := decide_eq_true c38
                 clear c38
                 by_cases c39 : (ji37) < (l0_2.length : Int)
                 ·rw [if_pos c39] at H
                  have c39b0 : decide ((ji37) < (l0_2.length : Int)) = true := decide_eq_true c39
                  clear c39
                  have H' := Aside0.mk H
                  clear H
                  have hnb40 := NB253_247.out
                  have hnc40 := NB247_253.out
                  obtain ⟨hcz41_0, hcz41_1, hfz41_0, hfz41_1⟩ := cs2_ BK253.out
                  go_wp2_with (first | (go_at_call 36; (with_reducible refine (hinterlandref10_within.calls ((rd_T41 l0_2 x52_3).f0) 0 15 true _ A32.out).mono ?_); rintro e w' ⟨rfl, ⟨nd, rfl⟩⟩; (try first | exact ⟨rfl, _, World.drewN_drewN _ _ _⟩ | exact ⟨rfl, _, Eq.trans (World.drewN_drewN _ _ _) (congrArg (World.drewN _) (Nat.add_assoc _ _ _))⟩)) | (go_at_call 36; (with_reducible refine (hinterlandref10_within.calls ((rd_T41 l0_2 x52_3).f1) 1 1000 true _ A34.out).mono ?_); rintro e w' ⟨rfl, ⟨nd, rfl⟩⟩; (try first | exact ⟨rfl, _, World.drewN_drewN _ _ _⟩ | exact ⟨rfl, _, Eq.trans (World.drewN_drewN _ _ _) (congrArg (World.drewN _) (Nat.add_assoc _ _ _))⟩); obtain ⟨hcz42_0, hcz42_1, hcz42_2, hfz42_0, hfz42_1, hfz42_2⟩ := cs3_ BK247.out; have p256 : 0 ≤ ((ji37) : Int) := of_decide_eq_true tW_; have q256 : (ji37) < (l0_2.length : Int) := of_decide_eq_true tW_; obtain ⟨ad256, e256, hx256_0, hx256_1⟩ := at_T41 HR0_2.out (ji37) p256 q256; obtain rfl : ad252 = ad256 := (by injection e256); have hn256_0 : ad252.block ≠ gb253 := Nat.ne_of_lt (Nat.lt_of_lt_of_le (by have := World.block_lt_of_cell? _ _ hx256_0; first | rwa [add_block] at this | exact this) GW253.out); have hn256_1 : ad252.block ≠ gb253 := Nat.ne_of_lt (Nat.lt_of_lt_of_le (by have := World.block_lt_of_cell? _ _ hx256_0; first | rwa [add_block] at this | exact this) GW253.out); replace hx256_0 := bc_ HB hx256_0; replace hx256_1 := bc_ HB hx256_1; replace hx256_0 := (cell_far (p := ⟨gb253, 0, none⟩) (aB_ hn256_0) (.int .i64 ((rd_T41 l0_2 x52_3).f0))).trans hx256_0; replace hx256_1 := (cell_far (p := ⟨gb253, 0, none⟩) (aB_ hn256_0) (.int .i64 ((rd_T41 l0_2 x52_3).f0))).trans hx256_1; replace hx256_0 := (cell_far (p := ⟨gb253, 1, none⟩) (aB_ hn256_1) (.int .i64 ((rd_T41 l0_2 x52_3).f1))).trans hx256_0; replace hx256_1 := (cell_far (p := ⟨gb253, 1, none⟩) (aB_ hn256_1) (.int .i64 ((rd_T41 l0_2 x52_3).f1))).trans hx256_1; (try have hy256_0 := fun (n_ : Nat) => (show ((((w29.drewN n_).setCell ⟨gb253, 0, none⟩ (.int .i64 ((rd_T41 l0_2 x52_3).f0))).setCell ⟨gb253, 1, none⟩ (.int .i64 ((rd_T41 l0_2 x52_3).f1)))).cell? _ = some _ from hx256_0)); (try have hy256_1 := fun (n_ : Nat) => (show ((((w29.drewN n_).setCell ⟨gb253, 0, none⟩ (.int .i64 ((rd_T41 l0_2 x52_3).f0))).setCell ⟨gb253, 1, none⟩ (.int .i64 ((rd_T41 l0_2 x52_3).f1)))).cell? _ = some _ from hx256_1)); clear hn256_0; clear hn256_1; replace p256 := eq_true p256; replace q256 := eq_true q256))
                  repeat (go_quiet (first | (go_at_call 36; (with_reducible refine (hinterlandref10_within.calls ((rd_T41 l0_2 x52_3).f0) 0 15 true _ A32.out).mono ?_); rintro e w' ⟨rfl, ⟨nd, rfl⟩⟩; (try first | exact ⟨rfl, _, World.drewN_drewN _ _ _⟩ | exact ⟨rfl, _, Eq.trans (World.drewN_drewN _ _ _) (congrArg (World.drewN _) (Nat.add_assoc _ _ _))⟩)) | (go_at_call 36; (with_reducible refine (hinterlandref10_within.calls ((rd_T41 l0_2 x52_3).f1) 1 1000 true _ A34.out).mono ?_); rintro e w' ⟨rfl, ⟨nd, rfl⟩⟩; (try first | exact ⟨rfl, _, World.drewN_drewN _ _ _⟩ | exact ⟨rfl, _, Eq.trans (World.drewN_drewN _ _ _) (congrArg (World.drewN _) (Nat.add_assoc _ _ _))⟩); obtain ⟨hcz42_0, hcz42_1, hcz42_2, hfz42_0, hfz42_1, hfz42_2⟩ := cs3_ BK247.out; have p256 : 0 ≤ ((ji37) : Int) := of_decide_eq_true tW_; have q256 : (ji37) < (l0_2.length : Int) := of_decide_eq_true tW_; obtain ⟨ad256, e256, hx256_0, hx256_1⟩ := at_T41 HR0_2.out (ji37) p256 q256; obtain rfl : ad252 = ad256 := (by injection e256); have hn256_0 : ad252.block ≠ gb253 := Nat.ne_of_lt (Nat.lt_of_lt_of_le (by have := World.block_lt_of_cell? _ _ hx256_0; first | rwa [add_block] at this | exact this) GW253.out); have hn256_1 : ad252.block ≠ gb253 := Nat.ne_of_lt (Nat.lt_of_lt_of_le (by have := World.block_lt_of_cell? _ _ hx256_0; first | rwa [add_block] at this | exact this) GW253.out); replace hx256_0 := bc_ HB hx256_0; replace hx256_1 := bc_ HB hx256_1; replace hx256_0 := (cell_far (p := ⟨gb253, 0, none⟩) (aB_ hn256_0) (.int .i64 ((rd_T41 l0_2 x52_3).f0))).trans hx256_0; replace hx256_1 := (cell_far (p := ⟨gb253, 0, none⟩) (aB_ hn256_0) (.int .i64 ((rd_T41 l0_2 x52_3).f0))).trans hx256_1; replace hx256_0 := (cell_far (p := ⟨gb253, 1, none⟩) (aB_ hn256_1) (.int .i64 ((rd_T41 l0_2 x52_3).f1))).trans hx256_0; replace hx256_1 := (cell_far (p := ⟨gb253, 1, none⟩) (aB_ hn256_1) (.int .i64 ((rd_T41 l0_2 x52_3).f1))).trans hx256_1; (try have hy256_0 := fun (n_ : Nat) => (show ((((w29.drewN n_).setCell ⟨gb253, 0, none⟩ (.int .i64 ((rd_T41 l0_2 x52_3).f0))).setCell ⟨gb253, 1, none⟩ (.int .i64 ((rd_T41 l0_2 x52_3).f1)))).cell? _ = some _ from hx256_0)); (try have hy256_1 := fun (n_ : Nat) => (show ((((w29.drewN n_).setCell ⟨gb253, 0, none⟩ (.int .i64 ((rd_T41 l0_2 x52_3).f0))).setCell ⟨gb253, 1, none⟩ (.int .i64 ((rd_T41 l0_2 x52_3).f1)))).cell? _ = some _ from hx256_1)); clear hn256_0; clear hn256_1; replace p256 := eq_true p256; replace q256 := eq_true q256)); try go_wp2_with (first | (go_at_call 36; (with_reducible refine (hinterlandref10_within.calls ((rd_T41 l0_2 x52_3).f0) 0 15 true _ A32.out).mono ?_); rintro e w' ⟨rfl, ⟨nd, rfl⟩⟩; (try first | exact ⟨rfl, _, World.drewN_drewN _ _ _⟩ | exact ⟨rfl, _, Eq.trans (World.drewN_drewN _ _ _) (congrArg (World.drewN _) (Nat.add_assoc _ _ _))⟩)) | (go_at_call 36; (with_reducible refine (hinterlandref10_within.calls ((rd_T41 l0_2 x52_3).f1) 1 1000 true _ A34.out).mono ?_); rintro e w' ⟨rfl, ⟨nd, rfl⟩⟩; (try first | exact ⟨rfl, _, World.drewN_drewN _ _ _⟩ | exact ⟨rfl, _, Eq.trans (World.drewN_drewN _ _ _) (congrArg (World.drewN _) (Nat.add_assoc _ _ _))⟩); obtain ⟨hcz42_0, hcz42_1, hcz42_2, hfz42_0, hfz42_1, hfz42_2⟩ := cs3_ BK247.out; have p256 : 0 ≤ ((ji37) : Int) := of_decide_eq_true tW_; have q256 : (ji37) < (l0_2.length : Int) := of_decide_eq_true tW_; obtain ⟨ad256, e256, hx256_0, hx256_1⟩ := at_T41 HR0_2.out (ji37) p256 q256; obtain rfl : ad252 = ad256 := (by injection e256); have hn256_0 : ad252.block ≠ gb253 := Nat.ne_of_lt (Nat.lt_of_lt_of_le (by have := World.block_lt_of_cell? _ _ hx256_0; first | rwa [add_block] at this | exact this) GW253.out); have hn256_1 : ad252.block ≠ gb253 := Nat.ne_of_lt (Nat.lt_of_lt_of_le (by have := World.block_lt_of_cell? _ _ hx256_0; first | rwa [add_block] at this | exact this) GW253.out); replace hx256_0 := bc_ HB hx256_0; replace hx256_1 := bc_ HB hx256_1; replace hx256_0 := (cell_far (p := ⟨gb253, 0, none⟩) (aB_ hn256_0) (.int .i64 ((rd_T41 l0_2 x52_3).f0))).trans hx256_0; replace hx256_1 := (cell_far (p := ⟨gb253, 0, none⟩) (aB_ hn256_0) (.int .i64 ((rd_T41 l0_2 x52_3).f0))).trans hx256_1; replace hx256_0 := (cell_far (p := ⟨gb253, 1, none⟩) (aB_ hn256_1) (.int .i64 ((rd_T41 l0_2 x52_3).f1))).trans hx256_0; replace hx256_1 := (cell_far (p := ⟨gb253, 1, none⟩) (aB_ hn256_1) (.int .i64 ((rd_T41 l0_2 x52_3).f1))).trans hx256_1; (try have hy256_0 := fun (n_ : Nat) => (show ((((w29.drewN n_).setCell ⟨gb253, 0, none⟩ (.int .i64 ((rd_T41 l0_2 x52_3).f0))).setCell ⟨gb253, 1, none⟩ (.int .i64 ((rd_T41 l0_2 x52_3).f1)))).cell? _ = some _ from hx256_0)); (try have hy256_1 := fun (n_ : Nat) => (show ((((w29.drewN n_).setCell ⟨gb253, 0, none⟩ (.int .i64 ((rd_T41 l0_2 x52_3).f0))).setCell ⟨gb253, 1, none⟩ (.int .i64 ((rd_T41 l0_2 x52_3).f1)))).cell? _ = some _ from hx256_1)); clear hn256_0; clear hn256_1; replace p256 := eq_true p256; replace q256 := eq_true q256)))
                  go_meet
                  case rel => exact ⟨_, (decide (((rd_T41 l0_2 (ji37)).f0) ≥ ((rd_T41 l0_2 x52_3).f0))), (by first | rfl | (simp; done) | (simp only [← hji37]; rw [shl_one_small _ (by assumption) (by omega)]; done) | (simp only [← hji37] <;> (first | rfl | simp)) | (simp [*]; done) | (refine congrArg (Value.int .i64) ?_; unfold wrap64; omega) | (simp only [shl_one_small _ (by assumption) (by omega)]; done) | (simp [*]; rw [shl_one_small _ (by assumption) (by omega)]; done)), H', ⟨by have := HJ1.out; have := HK2.out; have := HK3.out; first | omega | exact Nat.le_refl _⟩, ⟨by (with_reducible repeat (first | refine blk_drewN ?_ _ | refine blk_drew ?_ | refine blk_alloc ?_ _)); refine blk_far ?_ NB247_253.out _; (with_reducible repeat (first | refine blk_drewN ?_ _ | refine blk_drew ?_ | refine blk_alloc ?_ _)); refine blk_far ?_ NB247_253.out _; (with_reducible repeat (first | refine blk_drewN ?_ _ | refine blk_drew ?_ | refine blk_alloc ?_ _)); exact BK247.out⟩, ⟨by (with_reducible repeat (first | refine blk_drewN ?_ _ | refine blk_drew ?_ | refine blk_alloc ?_ _)); refine blk_put (cs := #[.int .i64 ((rd_T41 l0_2 x52_3).f0), .int .i64 0]) ?_ 1 _ rfl; (with_reducible repeat (first | refine blk_drewN ?_ _ | refine blk_drew ?_ | refine blk_alloc ?_ _)); refine blk_put (cs := #[.int .i64 0, .int .i64 0]) ?_ 0 _ rfl; (with_reducible repeat (first | refine blk_drewN ?_ _ | refine blk_drew ?_ | refine blk_alloc ?_ _)); exact BK253.out⟩, ⟨dL2_ HB GE247 GE253⟩⟩
                 ·rw [if_neg c39] at H
                  exact absurd H (by simp)
                ·rw [if_neg c38] at H
                 exact absurd H (by simp)
               ·rw [if_neg c36] at H
                have c36b0 : decide (0 < x52_3) = false := decide_eq_false c36
                clear c36
                (first | rw [c36b0] | (simp only [i64_w, i32_w]; rw [c36b0]) | skip)
                have H' := Aside0.mk H
                clear H
                have hnb43 := NB253_247.out
                have hnc43 := NB247_253.out
                obtain ⟨hcz44_0, hcz44_1, hfz44_0, hfz44_1⟩ := cs2_ BK253.out
                go_wp2_with (first | (go_at_call 36; (with_reducible refine (hinterlandref10_within.calls ((rd_T41 l0_2 x52_3).f0) 0 15 true _ A32.out).mono ?_); rintro e w' ⟨rfl, ⟨nd, rfl⟩⟩; (try first | exact ⟨rfl, _, World.drewN_drewN _ _ _⟩ | exact ⟨rfl, _, Eq.trans (World.drewN_drewN _ _ _) (congrArg (World.drewN _) (Nat.add_assoc _ _ _))⟩)) | (go_at_call 36; (with_reducible refine (hinterlandref10_within.calls ((rd_T41 l0_2 x52_3).f1) 1 1000 true _ A34.out).mono ?_); rintro e w' ⟨rfl, ⟨nd, rfl⟩⟩; (try first | exact ⟨rfl, _, World.drewN_drewN _ _ _⟩ | exact ⟨rfl, _, Eq.trans (World.drewN_drewN _ _ _) (congrArg (World.drewN _) (Nat.add_assoc _ _ _))⟩)))
                repeat (go_quiet (first | (go_at_call 36; (with_reducible refine (hinterlandref10_within.calls ((rd_T41 l0_2 x52_3).f0) 0 15 true _ A32.out).mono ?_); rintro e w' ⟨rfl, ⟨nd, rfl⟩⟩; (try first | exact ⟨rfl, _, World.drewN_drewN _ _ _⟩ | exact ⟨rfl, _, Eq.trans (World.drewN_drewN _ _ _) (congrArg (World.drewN _) (Nat.add_assoc _ _ _))⟩)) | (go_at_call 36; (with_reducible refine (hinterlandref10_within.calls ((rd_T41 l0_2 x52_3).f1) 1 1000 true _ A34.out).mono ?_); rintro e w' ⟨rfl, ⟨nd, rfl⟩⟩; (try first | exact ⟨rfl, _, World.drewN_drewN _ _ _⟩ | exact ⟨rfl, _, Eq.trans (World.drewN_drewN _ _ _) (congrArg (World.drewN _) (Nat.add_assoc _ _ _))⟩))); try go_wp2_with (first | (go_at_call 36; (with_reducible refine (hinterlandref10_within.calls ((rd_T41 l0_2 x52_3).f0) 0 15 true _ A32.out).mono ?_); rintro e w' ⟨rfl, ⟨nd, rfl⟩⟩; (try first | exact ⟨rfl, _, World.drewN_drewN _ _ _⟩ | exact ⟨rfl, _, Eq.trans (World.drewN_drewN _ _ _) (congrArg (World.drewN _) (Nat.add_assoc _ _ _))⟩)) | (go_at_call 36; (with_reducible refine (hinterlandref10_within.calls ((rd_T41 l0_2 x52_3).f1) 1 1000 true _ A34.out).mono ?_); rintro e w' ⟨rfl, ⟨nd, rfl⟩⟩; (try first | exact ⟨rfl, _, World.drewN_drewN _ _ _⟩ | exact ⟨rfl, _, Eq.trans (World.drewN_drewN _ _ _) (congrArg (World.drewN _) (Nat.add_assoc _ _ _))⟩))))
                go_meet
                case rel => exact ⟨_, (false), tS_, H', ⟨by have := HJ1.out; have := HK2.out; have := HK3.out; first | omega | exact Nat.le_refl _⟩, ⟨by (with_reducible repeat (first | refine blk_drewN ?_ _ | refine blk_drew ?_ | refine blk_alloc ?_ _)); refine blk_far ?_ NB247_253.out _; (with_reducible repeat (first | refine blk_drewN ?_ _ | refine blk_drew ?_ | refine blk_alloc ?_ _)); refine blk_far ?_ NB247_253.out _; (with_reducible repeat (first | refine blk_drewN ?_ _ | refine blk_drew ?_ | refine blk_alloc ?_ _)); exact BK247.out⟩, ⟨by (with_reducible repeat (first | refine blk_drewN ?_ _ | refine blk_drew ?_ | refine blk_alloc ?_ _)); refine blk_put (cs := #[.int .i64 ((rd_T41 l0_2 x52_3).f0), .int .i64 0]) ?_ 1 _ rfl; (with_reducible repeat (first | refine blk_drewN ?_ _ | refine blk_drew ?_ | refine blk_alloc ?_ _)); refine blk_put (cs := #[.int .i64 0, .int .i64 0]) ?_ 0 _ rfl; (with_reducible repeat (first | refine blk_drewN ?_ _ | refine blk_drew ?_ | refine blk_alloc ?_ _)); exact BK253.out⟩, ⟨dL2_ HB GE247 GE253⟩⟩
              ·replace c35 := Bool.eq_false_iff.mpr c35
               subst c35
               have H1 : (hinterlandref10_right.j4 k3 l0_2 (l0_2.length : Int) x52_3 true a0_0 l0_1 l0_2) = some r := by rw [if_neg (show ¬ (false = true) by decide)] at H; exact H
               clear H
               have H := H1
               clear H1
               have H' := Aside0.mk H
               clear H
               have hnb45 := NB253_247.out
               have hnc45 := NB247_253.out
               obtain ⟨hcz46_0, hcz46_1, hfz46_0, hfz46_1⟩ := cs2_ BK253.out
               go_wp2_with (first | (go_at_call 36; (with_reducible refine (hinterlandref10_within.calls ((rd_T41 l0_2 x52_3).f0) 0 15 true _ A32.out).mono ?_); rintro e w' ⟨rfl, ⟨nd, rfl⟩⟩; (try first | exact ⟨rfl, _, World.drewN_drewN _ _ _⟩ | exact ⟨rfl, _, Eq.trans (World.drewN_drewN _ _ _) (congrArg (World.drewN _) (Nat.add_assoc _ _ _))⟩)) | (go_at_call 36; (with_reducible refine (hinterlandref10_within.calls ((rd_T41 l0_2 x52_3).f1) 1 1000 false _ A34.out).mono ?_); rintro e w' ⟨rfl, ⟨nd, rfl⟩⟩; (try first | exact ⟨rfl, _, World.drewN_drewN _ _ _⟩ | exact ⟨rfl, _, Eq.trans (World.drewN_drewN _ _ _) (congrArg (World.drewN _) (Nat.add_assoc _ _ _))⟩)))
               repeat (go_quiet (first | (go_at_call 36; (with_reducible refine (hinterlandref10_within.calls ((rd_T41 l0_2 x52_3).f0) 0 15 true _ A32.out).mono ?_); rintro e w' ⟨rfl, ⟨nd, rfl⟩⟩; (try first | exact ⟨rfl, _, World.drewN_drewN _ _ _⟩ | exact ⟨rfl, _, Eq.trans (World.drewN_drewN _ _ _) (congrArg (World.drewN _) (Nat.add_assoc _ _ _))⟩)) | (go_at_call 36; (with_reducible refine (hinterlandref10_within.calls ((rd_T41 l0_2 x52_3).f1) 1 1000 false _ A34.out).mono ?_); rintro e w' ⟨rfl, ⟨nd, rfl⟩⟩; (try first | exact ⟨rfl, _, World.drewN_drewN _ _ _⟩ | exact ⟨rfl, _, Eq.trans (World.drewN_drewN _ _ _) (congrArg (World.drewN _) (Nat.add_assoc _ _ _))⟩))); try go_wp2_with (first | (go_at_call 36; (with_reducible refine (hinterlandref10_within.calls ((rd_T41 l0_2 x52_3).f0) 0 15 true _ A32.out).mono ?_); rintro e w' ⟨rfl, ⟨nd, rfl⟩⟩; (try first | exact ⟨rfl, _, World.drewN_drewN _ _ _⟩ | exact ⟨rfl, _, Eq.trans (World.drewN_drewN _ _ _) (congrArg (World.drewN _) (Nat.add_assoc _ _ _))⟩)) | (go_at_call 36; (with_reducible refine (hinterlandref10_within.calls ((rd_T41 l0_2 x52_3).f1) 1 1000 false _ A34.out).mono ?_); rintro e w' ⟨rfl, ⟨nd, rfl⟩⟩; (try first | exact ⟨rfl, _, World.drewN_drewN _ _ _⟩ | exact ⟨rfl, _, Eq.trans (World.drewN_drewN _ _ _) (congrArg (World.drewN _) (Nat.add_assoc _ _ _))⟩))))
               go_meet
               case rel => exact ⟨_, (true), tS_, H', ⟨by have := HJ1.out; have := HK2.out; have := HK3.out; first | omega | exact Nat.le_refl _⟩, ⟨by (with_reducible repeat (first | refine blk_drewN ?_ _ | refine blk_drew ?_ | refine blk_alloc ?_ _)); refine blk_far ?_ NB247_253.out _; (with_reducible repeat (first | refine blk_drewN ?_ _ | refine blk_drew ?_ | refine blk_alloc ?_ _)); refine blk_far ?_ NB247_253.out _; (with_reducible repeat (first | refine blk_drewN ?_ _ | refine blk_drew ?_ | refine blk_alloc ?_ _)); exact BK247.out⟩, ⟨by (with_reducible repeat (first | refine blk_drewN ?_ _ | refine blk_drew ?_ | refine blk_alloc ?_ _)); refine blk_put (cs := #[.int .i64 ((rd_T41 l0_2 x52_3).f0), .int .i64 0]) ?_ 1 _ rfl; (with_reducible repeat (first | refine blk_drewN ?_ _ | refine blk_drew ?_ | refine blk_alloc ?_ _)); refine blk_put (cs := #[.int .i64 0, .int .i64 0]) ?_ 0 _ rfl; (with_reducible repeat (first | refine blk_drewN ?_ _ | refine blk_drew ?_ | refine blk_alloc ?_ _)); exact BK253.out⟩, ⟨dL2_ HB GE247 GE253⟩⟩
             ·replace c33 := Bool.eq_false_iff.mpr c33
              subst c33
              have H1 : (hinterlandref10_right.j4 k3 l0_2 (l0_2.length : Int) x52_3 true a0_0 l0_1 l0_2) = some r := by rw [if_neg (show ¬ (false = true) by decide)] at H; exact H
              clear H
              have H := H1
              clear H1
              have H' := Aside0.mk H
              clear H
              have hnb47 := NB253_247.out
              have hnc47 := NB247_253.out
              obtain ⟨hcz48_0, hcz48_1, hfz48_0, hfz48_1⟩ := cs2_ BK253.out
              go_wp2_with (first | (go_at_call 36; (with_reducible refine (hinterlandref10_within.calls ((rd_T41 l0_2 x52_3).f0) 0 15 false _ A32.out).mono ?_); rintro e w' ⟨rfl, ⟨nd, rfl⟩⟩; (try first | exact ⟨rfl, _, World.drewN_drewN _ _ _⟩ | exact ⟨rfl, _, Eq.trans (World.drewN_drewN _ _ _) (congrArg (World.drewN _) (Nat.add_assoc _ _ _))⟩)))
              repeat (go_quiet (first | (go_at_call 36; (with_reducible refine (hinterlandref10_within.calls ((rd_T41 l0_2 x52_3).f0) 0 15 false _ A32.out).mono ?_); rintro e w' ⟨rfl, ⟨nd, rfl⟩⟩; (try first | exact ⟨rfl, _, World.drewN_drewN _ _ _⟩ | exact ⟨rfl, _, Eq.trans (World.drewN_drewN _ _ _) (congrArg (World.drewN _) (Nat.add_assoc _ _ _))⟩))); try go_wp2_with (first | (go_at_call 36; (with_reducible refine (hinterlandref10_within.calls ((rd_T41 l0_2 x52_3).f0) 0 15 false _ A32.out).mono ?_); rintro e w' ⟨rfl, ⟨nd, rfl⟩⟩; (try first | exact ⟨rfl, _, World.drewN_drewN _ _ _⟩ | exact ⟨rfl, _, Eq.trans (World.drewN_drewN _ _ _) (congrArg (World.drewN _) (Nat.add_assoc _ _ _))⟩))))
              go_meet
              case rel => exact ⟨_, (true), tS_, H', ⟨by have := HJ1.out; have := HK2.out; have := HK3.out; first | omega | exact Nat.le_refl _⟩, ⟨by (with_reducible repeat (first | refine blk_drewN ?_ _ | refine blk_drew ?_ | refine blk_alloc ?_ _)); refine blk_far ?_ NB247_253.out _; (with_reducible repeat (first | refine blk_drewN ?_ _ | refine blk_drew ?_ | refine blk_alloc ?_ _)); refine blk_far ?_ NB247_253.out _; (with_reducible repeat (first | refine blk_drewN ?_ _ | refine blk_drew ?_ | refine blk_alloc ?_ _)); exact BK247.out⟩, ⟨by (with_reducible repeat (first | refine blk_drewN ?_ _ | refine blk_drew ?_ | refine blk_alloc ?_ _)); refine blk_put (cs := #[.int .i64 ((rd_T41 l0_2 x52_3).f0), .int .i64 0]) ?_ 1 _ rfl; (with_reducible repeat (first | refine blk_drewN ?_ _ | refine blk_drew ?_ | refine blk_alloc ?_ _)); refine blk_put (cs := #[.int .i64 0, .int .i64 0]) ?_ 0 _ rfl; (with_reducible repeat (first | refine blk_drewN ?_ _ | refine blk_drew ?_ | refine blk_alloc ?_ _)); exact BK253.out⟩, ⟨dL2_ HB GE247 GE253⟩⟩
            case rest =>
             clear HC28
             try clear c6
             try clear c10
             try clear c12
             try clear c12b0
             try clear c13
             try clear c14
             try clear c18
             try clear c20
             try clear c21
             try clear c25
             try clear c25b0
             try clear c26
             try clear c26b0
             try clear c27
             try clear c27b0
             try clear c36
             try clear c38
             try clear c39
             try clear hcz11_0
             try clear hcz11_1
             try clear hcz11_2
             try clear hcz24_0
             try clear hcz24_1
             try clear hcz24_2
             try clear hcz31_0
             try clear hcz31_1
             try clear hfz11_0
             try clear hfz11_1
             try clear hfz11_2
             try clear hfz24_0
             try clear hfz24_1
             try clear hfz24_2
             try clear hfz31_0
             try clear hfz31_1
             try clear hx252_0
             try clear hx252_1
             try clear p252
             try clear q252
             obtain ⟨kq, x82_27, rfl, HA, HJ27, BK247, BK253, HB⟩ := hcut
             cases kq with
             | zero => exact absurd HA.out (by simp [hinterlandref10_right.j4])
             | succ kj27 =>
              have H := HA.out
              clear HA
              simp only [hinterlandref10_right.j4] at H
              by_cases c49 : x82_27 = true
              ·subst c49
               have H1 : (some false) = some r := by rw [if_pos rfl] at H; exact H
               clear H
               have H := H1
               clear H1
               obtain rfl := Option.some.inj H
               go_wp2
               repeat (go_quiet (fail); try go_wp2)
               go_ret
               exact ⟨tE_, dL2_ HB GE247 GE253⟩
              ·replace c49 := Bool.eq_false_iff.mpr c49
               subst c49
               have H1 : (hinterlandref10_right.l1 kj27 l0_2 (l0_2.length : Int) (wrap64 (x52_3 + 1)) a0_0 l0_1 l0_2) = some r := by rw [if_neg (show ¬ (false = true) by decide)] at H; exact H
               clear H
               have H := H1
               clear H1
               have H' := Aside0.mk H
               clear H
               go_wp2
               repeat (go_quiet (fail); try go_wp2)
               go_roundg kj27
               case measure => have := HJ1.out; have := HK2.out; have := HK3.out; have := HJ27.out; omega
               case rel => exact ⟨(wrap64 (x52_3 + 1)), tS_, H', ⟨by have := HJ1.out; have := HK2.out; have := HK3.out; have := HJ27.out; omega⟩, ⟨dB_ BK247⟩, ⟨dL2_ HB GE247 GE253⟩⟩
           ·rw [if_neg c27] at H
            exact absurd H (by simp)
          ·rw [if_neg c26] at H
           exact absurd H (by simp)
         ·rw [if_neg c25] at H
          have c25b0 : decide (x52_3 < (l0_2.length : Int)) = false := decide_eq_false c25
          clear c25
          obtain rfl := Option.some.inj H
          go_wp2
          repeat (go_quiet (fail); try go_wp2)
          go_ret
          exact ⟨tE_, dL1_ HB GE247⟩

end Go.Proofs.Ytnkgelnkoljgdaa.Q
