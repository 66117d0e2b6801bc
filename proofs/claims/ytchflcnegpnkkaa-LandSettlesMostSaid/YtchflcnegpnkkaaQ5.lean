-- PRINTED by print.py (a twelfth state) out of the translation. Not trusted: Lean checks it.
import Derived.Test.YtchflcnegpnkkaaPrs
import Derived.Test.YtchflcnegpnkkaaQ0
import Derived.Test.YtchflcnegpnkkaaQ4
namespace Go.Proofs.Ytchflcnegpnkkaa.Q
open Go.RowKit Go.Proofs.YtchflcnegpnkkaaPrs Go.Proofs.YtchflcnegpnkkaaOwn Go.Proofs.YtchflcnegpnkkaaW.PrintWords Go.Proofs.YtchflcnegpnkkaaW.PrintLast Go.Proofs.YtchflcnegpnkkaaW.PrintMore
attribute [local go_sem] max2_int min2_int max_two min_two max_three min_three max_four min_four   -- for this text's walks alone
set_option linter.unusedVariables false
set_option linter.unusedSimpArgs false

/-! ### land_Validate: function 17 -/
mutual
def land_Validate.j0 : Nat → Bool → Int → Int → List Int → Option (Int)
  | 0, _, _, _, _ => none
  | k + 1, x38, x104000, x104001, x104002 => if x38 = true then (some 1) else (land_Validate.l0 k x104002 (x104002.length : Int) 0 x104000 x104001 x104002)
def land_Validate.l0 : Nat → List Int → Int → Int → Int → Int → List Int → Option (Int)
  | 0, _, _, _, _, _, _ => none
  | k + 1, x40, x41, x42, x104000, x104001, x104002 => if x42 < x41 then (if 0 ≤ x42 then (if x42 < (x40.length : Int) then (if (rd x40 x42) < 0 then (land_Validate.j2 k x40 x41 x42 true x104000 x104001 x104002) else (land_Validate.j2 k x40 x41 x42 (decide ((rd x40 x42) > 15)) x104000 x104001 x104002)) else (none)) else (none)) else (land_Validate.l1 k 0 x104000 x104001 x104002)
def land_Validate.j2 : Nat → List Int → Int → Int → Bool → Int → Int → List Int → Option (Int)
  | 0, _, _, _, _, _, _, _ => none
  | k + 1, x40, x41, x42, x51, x104000, x104001, x104002 => if x51 = true then (some 1) else (land_Validate.l0 k x40 x41 (wrap64 (x42 + 1)) x104000 x104001 x104002)
def land_Validate.l1 : Nat → Int → Int → Int → List Int → Option (Int)
  | 0, _, _, _, _ => none
  | k + 1, x5, x104000, x104001, x104002 => if x5 ≤ x104001 then (land_Validate.l2 k x5 0 x104000 x104001 x104002) else (some 0)
def land_Validate.l2 : Nat → Int → Int → Int → Int → List Int → Option (Int)
  | 0, _, _, _, _, _ => none
  | k + 1, x5, x6, x104000, x104001, x104002 => if x6 ≤ x104000 then (if 0 ≤ (wrap64 ((wrap64 (x5 * (wrap64 (x104000 + 1)))) + x6)) then (if (wrap64 ((wrap64 (x5 * (wrap64 (x104000 + 1)))) + x6)) < (x104002.length : Int) then (if x6 < x104000 then (if 0 ≤ (wrap64 ((wrap64 ((wrap64 (x5 * (wrap64 (x104000 + 1)))) + x6)) + 1)) then (if (wrap64 ((wrap64 ((wrap64 (x5 * (wrap64 (x104000 + 1)))) + x6)) + 1)) < (x104002.length : Int) then ((land_apart.f (rd x104002 (wrap64 ((wrap64 (x5 * (wrap64 (x104000 + 1)))) + x6))) (rd x104002 (wrap64 ((wrap64 ((wrap64 (x5 * (wrap64 (x104000 + 1)))) + x6)) + 1)))).bind fun t107 => (if t107 = true then (land_Validate.j5 k x5 x6 true x104000 x104001 x104002) else (if x5 < x104001 then (if 0 ≤ (wrap64 ((wrap64 ((wrap64 (x5 + 1)) * (wrap64 (x104000 + 1)))) + x6)) then (if (wrap64 ((wrap64 ((wrap64 (x5 + 1)) * (wrap64 (x104000 + 1)))) + x6)) < (x104002.length : Int) then ((land_apart.f (rd x104002 (wrap64 ((wrap64 (x5 * (wrap64 (x104000 + 1)))) + x6))) (rd x104002 (wrap64 ((wrap64 ((wrap64 (x5 + 1)) * (wrap64 (x104000 + 1)))) + x6)))).bind fun t109 => (land_Validate.j5 k x5 x6 t109 x104000 x104001 x104002)) else (none)) else (none)) else (land_Validate.j5 k x5 x6 false x104000 x104001 x104002)))) else (none)) else (none)) else (if x5 < x104001 then (if 0 ≤ (wrap64 ((wrap64 ((wrap64 (x5 + 1)) * (wrap64 (x104000 + 1)))) + x6)) then (if (wrap64 ((wrap64 ((wrap64 (x5 + 1)) * (wrap64 (x104000 + 1)))) + x6)) < (x104002.length : Int) then ((land_apart.f (rd x104002 (wrap64 ((wrap64 (x5 * (wrap64 (x104000 + 1)))) + x6))) (rd x104002 (wrap64 ((wrap64 ((wrap64 (x5 + 1)) * (wrap64 (x104000 + 1)))) + x6)))).bind fun t111 => (land_Validate.j5 k x5 x6 t111 x104000 x104001 x104002)) else (none)) else (none)) else (land_Validate.j5 k x5 x6 false x104000 x104001 x104002))) else (none)) else (none)) else (land_Validate.l1 k (wrap64 (x5 + 1)) x104000 x104001 x104002)
def land_Validate.j5 : Nat → Int → Int → Bool → Int → Int → List Int → Option (Int)
  | 0, _, _, _, _, _, _ => none
  | k + 1, x5, x6, x117, x104000, x104001, x104002 => if x117 = true then (some 5) else (land_Validate.l2 k x5 (wrap64 (x6 + 1)) x104000 x104001 x104002)
end
def land_Validate.f (k : Nat) (a0_0 : Int) (a0_1 : Int) (l0_2 : List Int) : Option (Int) := if a0_0 < 4 then (land_Validate.j0 k true a0_0 a0_1 l0_2) else (if a0_0 > 32 then (land_Validate.j0 k true a0_0 a0_1 l0_2) else (if a0_1 < 4 then (land_Validate.j0 k true a0_0 a0_1 l0_2) else (if a0_1 > 32 then (land_Validate.j0 k true a0_0 a0_1 l0_2) else (land_Validate.j0 k ((l0_2.length : Int) != (wrap64 ((wrap64 (a0_0 + 1)) * (wrap64 (a0_1 + 1))))) a0_0 a0_1 l0_2))))
theorem land_Validate.mono_l : ∀ k, (∀ y0 y1 y2 y3, LeO (land_Validate.j0 k y0 y1 y2 y3) (land_Validate.j0 (k + 1) y0 y1 y2 y3)) ∧ (∀ y0 y1 y2 y3 y4 y5, LeO (land_Validate.l0 k y0 y1 y2 y3 y4 y5) (land_Validate.l0 (k + 1) y0 y1 y2 y3 y4 y5)) ∧ (∀ y0 y1 y2 y3 y4 y5 y6, LeO (land_Validate.j2 k y0 y1 y2 y3 y4 y5 y6) (land_Validate.j2 (k + 1) y0 y1 y2 y3 y4 y5 y6)) ∧ (∀ y0 y1 y2 y3, LeO (land_Validate.l1 k y0 y1 y2 y3) (land_Validate.l1 (k + 1) y0 y1 y2 y3)) ∧ (∀ y0 y1 y2 y3 y4, LeO (land_Validate.l2 k y0 y1 y2 y3 y4) (land_Validate.l2 (k + 1) y0 y1 y2 y3 y4)) ∧ (∀ y0 y1 y2 y3 y4 y5, LeO (land_Validate.j5 k y0 y1 y2 y3 y4 y5) (land_Validate.j5 (k + 1) y0 y1 y2 y3 y4 y5))
  | 0 => ⟨fun _ _ _ _ r h => by simp [land_Validate.j0] at h, fun _ _ _ _ _ _ r h => by simp [land_Validate.l0] at h, fun _ _ _ _ _ _ _ r h => by simp [land_Validate.j2] at h, fun _ _ _ _ r h => by simp [land_Validate.l1] at h, fun _ _ _ _ _ r h => by simp [land_Validate.l2] at h, fun _ _ _ _ _ _ r h => by simp [land_Validate.j5] at h⟩
  | k + 1 => by
    obtain ⟨ih0, ih1, ih2, ih3, ih4, ih5⟩ := land_Validate.mono_l k
    refine ⟨?_, ?_, ?_, ?_, ?_, ?_⟩
    · intro y0 y1 y2 y3
      unfold land_Validate.j0
      repeat' first
      | (with_reducible first | exact ih0 _ _ _ _ | exact ih1 _ _ _ _ _ _ | exact ih2 _ _ _ _ _ _ _ | exact ih3 _ _ _ _ | exact ih4 _ _ _ _ _ | exact ih5 _ _ _ _ _ _ | exact LeO.refl _ | exact LeO.none _ | refine LeO.ite ?_ ?_ | refine LeO.bind ?_ (fun _ => ?_))
      | exact ih0 _ _ _ _
      | exact ih1 _ _ _ _ _ _
      | exact ih2 _ _ _ _ _ _ _
      | exact ih3 _ _ _ _
      | exact ih4 _ _ _ _ _
      | exact ih5 _ _ _ _ _ _
      | exact LeO.none _
      | refine LeO.ite ?_ ?_
      | refine LeO.bind ?_ (fun _ => ?_)
    · intro y0 y1 y2 y3 y4 y5
      unfold land_Validate.l0
      repeat' first
      | (with_reducible first | exact ih0 _ _ _ _ | exact ih1 _ _ _ _ _ _ | exact ih2 _ _ _ _ _ _ _ | exact ih3 _ _ _ _ | exact ih4 _ _ _ _ _ | exact ih5 _ _ _ _ _ _ | exact LeO.refl _ | exact LeO.none _ | refine LeO.ite ?_ ?_ | refine LeO.bind ?_ (fun _ => ?_))
      | exact ih0 _ _ _ _
      | exact ih1 _ _ _ _ _ _
      | exact ih2 _ _ _ _ _ _ _
      | exact ih3 _ _ _ _
      | exact ih4 _ _ _ _ _
      | exact ih5 _ _ _ _ _ _
      | exact LeO.none _
      | refine LeO.ite ?_ ?_
      | refine LeO.bind ?_ (fun _ => ?_)
    · intro y0 y1 y2 y3 y4 y5 y6
      unfold land_Validate.j2
      repeat' first
      | (with_reducible first | exact ih0 _ _ _ _ | exact ih1 _ _ _ _ _ _ | exact ih2 _ _ _ _ _ _ _ | exact ih3 _ _ _ _ | exact ih4 _ _ _ _ _ | exact ih5 _ _ _ _ _ _ | exact LeO.refl _ | exact LeO.none _ | refine LeO.ite ?_ ?_ | refine LeO.bind ?_ (fun _ => ?_))
      | exact ih0 _ _ _ _
      | exact ih1 _ _ _ _ _ _
      | exact ih2 _ _ _ _ _ _ _
      | exact ih3 _ _ _ _
      | exact ih4 _ _ _ _ _
      | exact ih5 _ _ _ _ _ _
      | exact LeO.none _
      | refine LeO.ite ?_ ?_
      | refine LeO.bind ?_ (fun _ => ?_)
    · intro y0 y1 y2 y3
      unfold land_Validate.l1
      repeat' first
      | (with_reducible first | exact ih0 _ _ _ _ | exact ih1 _ _ _ _ _ _ | exact ih2 _ _ _ _ _ _ _ | exact ih3 _ _ _ _ | exact ih4 _ _ _ _ _ | exact ih5 _ _ _ _ _ _ | exact LeO.refl _ | exact LeO.none _ | refine LeO.ite ?_ ?_ | refine LeO.bind ?_ (fun _ => ?_))
      | exact ih0 _ _ _ _
      | exact ih1 _ _ _ _ _ _
      | exact ih2 _ _ _ _ _ _ _
      | exact ih3 _ _ _ _
      | exact ih4 _ _ _ _ _
      | exact ih5 _ _ _ _ _ _
      | exact LeO.none _
      | refine LeO.ite ?_ ?_
      | refine LeO.bind ?_ (fun _ => ?_)
    · intro y0 y1 y2 y3 y4
      unfold land_Validate.l2
      repeat' first
      | (with_reducible first | exact ih0 _ _ _ _ | exact ih1 _ _ _ _ _ _ | exact ih2 _ _ _ _ _ _ _ | exact ih3 _ _ _ _ | exact ih4 _ _ _ _ _ | exact ih5 _ _ _ _ _ _ | exact LeO.refl _ | exact LeO.none _ | refine LeO.ite ?_ ?_ | refine LeO.bind ?_ (fun _ => ?_))
      | exact ih0 _ _ _ _
      | exact ih1 _ _ _ _ _ _
      | exact ih2 _ _ _ _ _ _ _
      | exact ih3 _ _ _ _
      | exact ih4 _ _ _ _ _
      | exact ih5 _ _ _ _ _ _
      | exact LeO.none _
      | refine LeO.ite ?_ ?_
      | refine LeO.bind ?_ (fun _ => ?_)
    · intro y0 y1 y2 y3 y4 y5
      unfold land_Validate.j5
      repeat' first
      | (with_reducible first | exact ih0 _ _ _ _ | exact ih1 _ _ _ _ _ _ | exact ih2 _ _ _ _ _ _ _ | exact ih3 _ _ _ _ | exact ih4 _ _ _ _ _ | exact ih5 _ _ _ _ _ _ | exact LeO.refl _ | exact LeO.none _ | refine LeO.ite ?_ ?_ | refine LeO.bind ?_ (fun _ => ?_))
      | exact ih0 _ _ _ _
      | exact ih1 _ _ _ _ _ _
      | exact ih2 _ _ _ _ _ _ _
      | exact ih3 _ _ _ _
      | exact ih4 _ _ _ _ _
      | exact ih5 _ _ _ _ _ _
      | exact LeO.none _
      | refine LeO.ite ?_ ?_
      | refine LeO.bind ?_ (fun _ => ?_)
theorem land_Validate.mono : ∀ a0 a1 a2 k, LeO (land_Validate.f k a0 a1 a2) (land_Validate.f (k + 1) a0 a1 a2) := by
  intro a0 a1 a2 k
  obtain ⟨ih0, ih1, ih2, ih3, ih4, ih5⟩ := land_Validate.mono_l k
  unfold land_Validate.f
  repeat' first
      | (with_reducible first | exact ih0 _ _ _ _ | exact ih1 _ _ _ _ _ _ | exact ih2 _ _ _ _ _ _ _ | exact ih3 _ _ _ _ | exact ih4 _ _ _ _ _ | exact ih5 _ _ _ _ _ _ | exact LeO.refl _ | exact LeO.none _ | refine LeO.ite ?_ ?_ | refine LeO.bind ?_ (fun _ => ?_))
      | exact ih0 _ _ _ _
      | exact ih1 _ _ _ _ _ _
      | exact ih2 _ _ _ _ _ _ _
      | exact ih3 _ _ _ _
      | exact ih4 _ _ _ _ _
      | exact ih5 _ _ _ _ _ _
      | exact LeO.none _
      | refine LeO.ite ?_ ?_
      | refine LeO.bind ?_ (fun _ => ?_)
set_option maxHeartbeats 8000000 in
set_option maxRecDepth 100000 in
theorem land_Validate.calls (k : Nat) (a0_0 : Int) (a0_1 : Int) (A0_2 : Option Addr) (c0_2 : Nat) (l0_2 : List Int) (r : Int) (w : World) (hr0_2 : Kd.C (Kd.int .i64) w A0_2 l0_2.length l0_2) (hc0_2 : l0_2.length ≤ c0_2) (h : land_Validate.f k a0_0 a0_1 l0_2 = some r) :
    Calls Try.prog 17 #[.agg #[.int .i64 a0_0, .int .i64 a0_1, .slice A0_2 l0_2.length c0_2]] w fun e w' => e = .returned (.int .i64 r) ∧ Below w.heap.size w w' := by
 have hu24 := Try.underlying24
 have HR0_2 := Aside0.mk hr0_2
 have HC0_2 := Aside0.mk hc0_2
 clear hr0_2 hc0_2
 have HB := Aside0.mk (Below.refl w.heap.size w)
 have H : (if a0_0 < 4 then (land_Validate.j0 k true a0_0 a0_1 l0_2) else (if a0_0 > 32 then (land_Validate.j0 k true a0_0 a0_1 l0_2) else (if a0_1 < 4 then (land_Validate.j0 k true a0_0 a0_1 l0_2) else (if a0_1 > 32 then (land_Validate.j0 k true a0_0 a0_1 l0_2) else (land_Validate.j0 k ((l0_2.length : Int) != (wrap64 ((wrap64 (a0_0 + 1)) * (wrap64 (a0_1 + 1))))) a0_0 a0_1 l0_2))))) = some r := h
 clear h
 have HC2 := Aside0.mk H
 clear H
 go_enter Try.func17, Try.ntmps17
 go_upto_region 1 with (first | ((with_reducible refine gate_dst (N := 1) rfl ?_); (try (refine gate_guard (by rfl) ?_; dsimp only)); refine box_event ?hg (N := 1) ?hd (cs := #[.int .i64 a0_0, .int .i64 a0_1, .slice A0_2 l0_2.length c0_2]) (t := 24) ?hr ?_; (case hd => rfl); (case hg => rfl); (case hr => first | (go_simp; done) | (go_simp; rfl)); intro gb103 hg w3 hbox hb; have BK103 := Aside0.mk (hbox); have GW103 := Aside0.mk ((dS_ hg (dL_ HB) : w.heap.size ≤ gb103)); have GE103 := Aside0.mk ((dS_ hg (dL_ HB) : w.heap.size ≤ gb103)); replace HB := Aside0.mk (below_step (dL_ HB) hb); clear hb hbox hg))
 (try simp only [Act.put, List.setIfInBounds_toArray, List.set_cons_zero, List.set_cons_succ])
 go_cut [38] (fun v38 wc => ∃ (kq : Nat) (x38_1 : Bool), v38 = .bool x38_1 ∧ Aside0 (land_Validate.j0 kq x38_1 a0_0 a0_1 l0_2 = some r) ∧ Aside0 (kq ≤ k) ∧ Aside0 (wc.heap[gb103]? = some (.cells #[.int .i64 a0_0, .int .i64 a0_1, (.slice A0_2 l0_2.length c0_2)] 24 (0, 0))) ∧ Aside0 (Below w.heap.size w wc))
 case first =>
  have H := HC2.out
  clear HC2
  by_cases c4 : a0_0 < 4
  ·rw [if_pos c4] at H
   have c4b0 : decide (a0_0 < 4) = true := decide_eq_true c4
   clear c4
   (first | rw [c4b0] | (simp only [i64_w, i32_w]; rw [c4b0]) | skip)
   have H' := Aside0.mk H
   clear H
   obtain ⟨hcz5_0, hcz5_1, hcz5_2, hfz5_0, hfz5_1, hfz5_2⟩ := cs3_ BK103.out
   go_wp2
   go_meet
   case rel => exact ⟨_, (true), tS_, H', ⟨by first | omega | exact Nat.le_refl _⟩, ⟨dB_ BK103⟩, ⟨dL1_ HB GE103⟩⟩
  ·rw [if_neg c4] at H
   have c4b0 : decide (a0_0 < 4) = false := decide_eq_false c4
   clear c4
   (first | rw [c4b0] | (simp only [i64_w, i32_w]; rw [c4b0]) | skip)
   by_cases c6 : a0_0 > 32
   ·rw [if_pos c6] at H
    have c6b0 : decide (32 < a0_0) = true := decide_eq_true c6
    clear c6
    have H' := Aside0.mk H
    clear H
    obtain ⟨hcz7_0, hcz7_1, hcz7_2, hfz7_0, hfz7_1, hfz7_2⟩ := cs3_ BK103.out
    go_wp2
    go_meet
    case rel => exact ⟨_, (true), tS_, H', ⟨by first | omega | exact Nat.le_refl _⟩, ⟨dB_ BK103⟩, ⟨dL1_ HB GE103⟩⟩
   ·rw [if_neg c6] at H
    have c6b0 : decide (32 < a0_0) = false := decide_eq_false c6
    clear c6
    by_cases c8 : a0_1 < 4
    ·rw [if_pos c8] at H
     have c8b0 : decide (a0_1 < 4) = true := decide_eq_true c8
     clear c8
     have H' := Aside0.mk H
     clear H
     obtain ⟨hcz9_0, hcz9_1, hcz9_2, hfz9_0, hfz9_1, hfz9_2⟩ := cs3_ BK103.out
     go_wp2
     go_meet
     case rel => exact ⟨_, (true), tS_, H', ⟨by first | omega | exact Nat.le_refl _⟩, ⟨dB_ BK103⟩, ⟨dL1_ HB GE103⟩⟩
    ·rw [if_neg c8] at H
     have c8b0 : decide (a0_1 < 4) = false := decide_eq_false c8
     clear c8
     by_cases c10 : a0_1 > 32
     ·rw [if_pos c10] at H
      have c10b0 : decide (32 < a0_1) = true := decide_eq_true c10
      clear c10
      have H' := Aside0.mk H
      clear H
      obtain ⟨hcz11_0, hcz11_1, hcz11_2, hfz11_0, hfz11_1, hfz11_2⟩ := cs3_ BK103.out
      go_wp2
      go_meet
      case rel => exact ⟨_, (true), tS_, H', ⟨by first | omega | exact Nat.le_refl _⟩, ⟨dB_ BK103⟩, ⟨dL1_ HB GE103⟩⟩
     ·rw [if_neg c10] at H
      have c10b0 : decide (32 < a0_1) = false := decide_eq_false c10
      clear c10
      have H' := Aside0.mk H
      clear H
      obtain ⟨hcz12_0, hcz12_1, hcz12_2, hfz12_0, hfz12_1, hfz12_2⟩ := cs3_ BK103.out
      go_wp2
      go_meet
      case rel => exact ⟨_, (((l0_2.length : Int) != (wrap64 ((wrap64 (a0_0 + 1)) * (wrap64 (a0_1 + 1)))))), tS_, H', ⟨by first | omega | exact Nat.le_refl _⟩, ⟨dB_ BK103⟩, ⟨dL1_ HB GE103⟩⟩
 case rest =>
  clear HC2
  try clear c4
  try clear c6
  try clear c8
  try clear c10
  obtain ⟨kq, x38_1, rfl, HA, HJ1, BK103, HB⟩ := hcut
  cases kq with
  | zero => exact absurd HA.out (by simp [land_Validate.j0])
  | succ kj1 =>
   have H := HA.out
   clear HA
   simp only [land_Validate.j0] at H
   by_cases c13 : x38_1 = true
   ·subst c13
    have H1 : (some 1) = some r := by rw [if_pos rfl] at H; exact H
    clear H
    have H := H1
    clear H1
    obtain rfl := Option.some.inj H
    go_wp2
    go_ret
    exact ⟨tE_, dL1_ HB GE103⟩
   ·replace c13 := Bool.eq_false_iff.mpr c13
    subst c13
    have H1 : (land_Validate.l0 kj1 l0_2 (l0_2.length : Int) 0 a0_0 a0_1 l0_2) = some r := by rw [if_neg (show ¬ (false = true) by decide)] at H; exact H
    clear H
    have H := H1
    clear H1
    have H' := Aside0.mk H
    clear H
    obtain ⟨hcz14_0, hcz14_1, hcz14_2, hfz14_0, hfz14_1, hfz14_2⟩ := cs3_ BK103.out
    go_wp2
    go_loopg [42] kj1 (fun kq v42 w' => ∃ (x42_2 : Int), v42 = .int .i64 x42_2 ∧ Aside0 (land_Validate.l0 kq l0_2 (l0_2.length : Int) x42_2 a0_0 a0_1 l0_2 = some r) ∧ Aside0 (kq ≤ kj1) ∧ Aside0 (w'.heap[gb103]? = some (.cells #[.int .i64 a0_0, .int .i64 a0_1, (.slice A0_2 l0_2.length c0_2)] 24 (0, 0))) ∧ Aside0 (Below w.heap.size w w'))
    case atStart => exact ⟨(0), tS_, H', ⟨Nat.le_refl _⟩, ⟨dB_ BK103⟩, ⟨dL1_ HB GE103⟩⟩
    case round =>
     clear H'
     try clear c4
     try clear c6
     try clear c8
     try clear c10
     try clear c13
     try clear hcz14_0
     try clear hcz14_1
     try clear hcz14_2
     try clear hfz14_0
     try clear hfz14_1
     try clear hfz14_2
     obtain ⟨x42_2, rfl, HA, HK2, BK103, HB⟩ := hrel
     cases gk with
     | zero => exact absurd HA.out (by simp [land_Validate.l0])
     | succ k2 =>
      have H := HA.out
      clear HA
      simp only [land_Validate.l0] at H
      by_cases c15 : x42_2 < (l0_2.length : Int)
      ·rw [if_pos c15] at H
       have c15b0 : decide (x42_2 < (l0_2.length : Int)) = true := decide_eq_true c15
       clear c15
       by_cases c16 : 0 ≤ x42_2
       ·rw [if_pos c16] at H
        have c16b0 : decide (0 ≤ x42_2) = true := decide_eq_true c16
        clear c16
        by_cases c17 : x42_2 < (l0_2.length : Int)
        ·rw [if_pos c17] at H
         have c17b0 : decide (x42_2 < (l0_2.length : Int)) = true := decide_eq_true c17
         clear c17
         have HC18 := Aside0.mk H
         clear H
         have p104 : 0 ≤ (x42_2 : Int) := of_decide_eq_true tW_
         have q104 : x42_2 < (l0_2.length : Int) := of_decide_eq_true tW_
         obtain ⟨ad104, e104, hx104_0⟩ := Kd.at_int HR0_2.out x42_2 p104 q104
         cases e104
         replace hx104_0 := bc_ HB hx104_0
         replace p104 := eq_true p104
         replace q104 := eq_true q104
         go_upto_region 6 with (fail)
         go_cut [51] (fun v51 wc => ∃ (kq : Nat) (x51_17 : Bool), v51 = .bool x51_17 ∧ Aside0 (land_Validate.j2 kq l0_2 (l0_2.length : Int) x42_2 x51_17 a0_0 a0_1 l0_2 = some r) ∧ Aside0 (kq ≤ k2) ∧ Aside0 (wc.heap[gb103]? = some (.cells #[.int .i64 a0_0, .int .i64 a0_1, (.slice (some ad104) l0_2.length c0_2)] 24 (0, 0))) ∧ Aside0 (Below w.heap.size w wc))
         case first =>
          have H := HC18.out
          clear HC18
          by_cases c19 : (rd l0_2 x42_2) < 0
          ·rw [if_pos c19] at H
           have c19b0 : decide ((rd l0_2 x42_2) < 0) = true := decide_eq_true c19
           clear c19
           (first | rw [c19b0] | (simp only [i64_w, i32_w]; rw [c19b0]) | skip)
           have H' := Aside0.mk H
           clear H
           go_wp2
           go_meet
           case rel => exact ⟨_, (true), tS_, H', ⟨by have := HJ1.out; have := HK2.out; first | omega | exact Nat.le_refl _⟩, ⟨dB_ BK103⟩, ⟨dL1_ HB GE103⟩⟩
          ·rw [if_neg c19] at H
           have c19b0 : decide ((rd l0_2 x42_2) < 0) = false := decide_eq_false c19
           clear c19
           (first | rw [c19b0] | (simp only [i64_w, i32_w]; rw [c19b0]) | skip)
           have H' := Aside0.mk H
           clear H
           go_wp2
           go_meet
           case rel => exact ⟨_, (decide ((rd l0_2 x42_2) > 15)), tS_, H', ⟨by have := HJ1.out; have := HK2.out; first | omega | exact Nat.le_refl _⟩, ⟨dB_ BK103⟩, ⟨dL1_ HB GE103⟩⟩
         case rest =>
          clear HC18
          try clear c4
          try clear c6
          try clear c8
          try clear c10
          try clear c13
          try clear c15
          try clear c15b0
          try clear c16
          try clear c16b0
          try clear c17
          try clear c17b0
          try clear c19
          try clear hcz14_0
          try clear hcz14_1
          try clear hcz14_2
          try clear hfz14_0
          try clear hfz14_1
          try clear hfz14_2
          try clear hx104_0
          try clear p104
          try clear q104
          obtain ⟨kq, x51_17, rfl, HA, HJ17, BK103, HB⟩ := hcut
          cases kq with
          | zero => exact absurd HA.out (by simp [land_Validate.j2])
          | succ kj17 =>
           have H := HA.out
           clear HA
           simp only [land_Validate.j2] at H
           by_cases c20 : x51_17 = true
           ·subst c20
            have H1 : (some 1) = some r := by rw [if_pos rfl] at H; exact H
            clear H
            have H := H1
            clear H1
            obtain rfl := Option.some.inj H
            go_wp2
            go_ret
            exact ⟨tE_, dL1_ HB GE103⟩
           ·replace c20 := Bool.eq_false_iff.mpr c20
            subst c20
            have H1 : (land_Validate.l0 kj17 l0_2 (l0_2.length : Int) (wrap64 (x42_2 + 1)) a0_0 a0_1 l0_2) = some r := by rw [if_neg (show ¬ (false = true) by decide)] at H; exact H
            clear H
            have H := H1
            clear H1
            have H' := Aside0.mk H
            clear H
            go_wp2
            go_roundg kj17
            case measure => have := HJ1.out; have := HK2.out; have := HJ17.out; omega
            case rel => exact ⟨(wrap64 (x42_2 + 1)), tS_, H', ⟨by have := HJ1.out; have := HK2.out; have := HJ17.out; omega⟩, ⟨dB_ BK103⟩, ⟨dL1_ HB GE103⟩⟩
        ·rw [if_neg c17] at H
         exact absurd H (by simp)
       ·rw [if_neg c16] at H
        exact absurd H (by simp)
      ·rw [if_neg c15] at H
       have c15b0 : decide (x42_2 < (l0_2.length : Int)) = false := decide_eq_false c15
       clear c15
       have H' := Aside0.mk H
       clear H
       go_wp2
       go_loopg [5] k2 (fun kq v5 w' => ∃ (x5_3 : Int), v5 = .int .i64 x5_3 ∧ Aside0 (land_Validate.l1 kq x5_3 a0_0 a0_1 l0_2 = some r) ∧ Aside0 (kq ≤ k2) ∧ Aside0 (w'.heap[gb103]? = some (.cells #[.int .i64 a0_0, .int .i64 a0_1, (.slice A0_2 l0_2.length c0_2)] 24 (0, 0))) ∧ Aside0 (Below w.heap.size w w'))
       case atStart => exact ⟨(0), tS_, H', ⟨Nat.le_refl _⟩, ⟨dB_ BK103⟩, ⟨dL1_ HB GE103⟩⟩
       case round =>
        clear H'
        try clear c4
        try clear c6
        try clear c8
        try clear c10
        try clear c13
        try clear c15
        try clear c15b0
        try clear c16
        try clear c17
        try clear c19
        try clear hcz14_0
        try clear hcz14_1
        try clear hcz14_2
        try clear hfz14_0
        try clear hfz14_1
        try clear hfz14_2
        obtain ⟨x5_3, rfl, HA, HK3, BK103, HB⟩ := hrel
        cases gk with
        | zero => exact absurd HA.out (by simp [land_Validate.l1])
        | succ k3 =>
         have H := HA.out
         clear HA
         simp only [land_Validate.l1] at H
         by_cases c21 : x5_3 ≤ a0_1
         ·rw [if_pos c21] at H
          have c21b0 : decide (x5_3 ≤ a0_1) = true := decide_eq_true c21
          clear c21
          have H' := Aside0.mk H
          clear H
          obtain ⟨hcz22_0, hcz22_1, hcz22_2, hfz22_0, hfz22_1, hfz22_2⟩ := cs3_ BK103.out
          go_wp2
          go_loopg [6] k3 (fun kq v6 w' => ∃ (x6_4 : Int), v6 = .int .i64 x6_4 ∧ Aside0 (land_Validate.l2 kq x5_3 x6_4 a0_0 a0_1 l0_2 = some r) ∧ Aside0 (kq ≤ k3) ∧ Aside0 (w'.heap[gb103]? = some (.cells #[.int .i64 a0_0, .int .i64 a0_1, (.slice A0_2 l0_2.length c0_2)] 24 (0, 0))) ∧ Aside0 (Below w.heap.size w w'))
          case atStart => exact ⟨(0), tS_, H', ⟨Nat.le_refl _⟩, ⟨dB_ BK103⟩, ⟨dL1_ HB GE103⟩⟩
          case round =>
           clear H'
           try clear c4
           try clear c6
           try clear c8
           try clear c10
           try clear c13
           try clear c15
           try clear c15b0
           try clear c16
           try clear c17
           try clear c19
           try clear c21
           try clear c21b0
           try clear hcz14_0
           try clear hcz14_1
           try clear hcz14_2
           try clear hcz22_0
           try clear hcz22_1
           try clear hcz22_2
           try clear hfz14_0
           try clear hfz14_1
           try clear hfz14_2
           try clear hfz22_0
           try clear hfz22_1
           try clear hfz22_2
           obtain ⟨x6_4, rfl, HA, HK4, BK103, HB⟩ := hrel
           cases gk with
           | zero => exact absurd HA.out (by simp [land_Validate.l2])
           | succ k4 =>
            have H := HA.out
            clear HA
            simp only [land_Validate.l2] at H
            by_cases c23 : x6_4 ≤ a0_0
            ·rw [if_pos c23] at H
             have c23b0 : decide (x6_4 ≤ a0_0) = true := decide_eq_true c23
             clear c23
             obtain ⟨ji24, hji24⟩ : ∃ j_ : Int, (wrap64 ((wrap64 (x5_3 * (wrap64 (a0_0 + 1)))) + x6_4)) = j_ := ⟨_, rfl⟩
             replace H : (if 0 ≤ (ji24) then (if (ji24) < (l0_2.length : Int) then (if x6_4 < a0_0 then (if 0 ≤ (wrap64 ((ji24) + 1)) then (if (wrap64 ((ji24) + 1)) < (l0_2.length : Int) then ((land_apart.f (rd l0_2 (ji24)) (rd l0_2 (wrap64 ((ji24) + 1)))).bind fun t107 => (if t107 = true then (land_Validate.j5 k4 x5_3 x6_4 true a0_0 a0_1 l0_2) else (if x5_3 < a0_1 then (if 0 ≤ (wrap64 ((wrap64 ((wrap64 (x5_3 + 1)) * (wrap64 (a0_0 + 1)))) + x6_4)) then (if (wrap64 ((wrap64 ((wrap64 (x5_3 + 1)) * (wrap64 (a0_0 + 1)))) + x6_4)) < (l0_2.length : Int) then ((land_apart.f (rd l0_2 (ji24)) (rd l0_2 (wrap64 ((wrap64 ((wrap64 (x5_3 + 1)) * (wrap64 (a0_0 + 1)))) + x6_4)))).bind fun t109 => (land_Validate.j5 k4 x5_3 x6_4 t109 a0_0 a0_1 l0_2)) else (none)) else (none)) else (land_Validate.j5 k4 x5_3 x6_4 false a0_0 a0_1 l0_2)))) else (none)) else (none)) else (if x5_3 < a0_1 then (if 0 ≤ (wrap64 ((wrap64 ((wrap64 (x5_3 + 1)) * (wrap64 (a0_0 + 1)))) + x6_4)) then (if (wrap64 ((wrap64 ((wrap64 (x5_3 + 1)) * (wrap64 (a0_0 + 1)))) + x6_4)) < (l0_2.length : Int) then ((land_apart.f (rd l0_2 (ji24)) (rd l0_2 (wrap64 ((wrap64 ((wrap64 (x5_3 + 1)) * (wrap64 (a0_0 + 1)))) + x6_4)))).bind fun t111 => (land_Validate.j5 k4 x5_3 x6_4 t111 a0_0 a0_1 l0_2)) else (none)) else (none)) else (land_Validate.j5 k4 x5_3 x6_4 false a0_0 a0_1 l0_2))) else (none)) else (none)) = some r := by first | (rw [hji24] at H; exact H) | (simp only [hji24] at H ⊢; exact H)
             have hji24w : (IntKind.i64.wrap ((wrap64 (x5_3 * (wrap64 (a0_0 + 1)))) + x6_4)) = ji24 := (i64_w _).trans hji24
             by_cases c25 : 0 ≤ (ji24)
             ·rw [if_pos c25] at H
              have c25b0 : decide (0 ≤ (ji24)) = true := decide_eq_true c25
              clear c25
              by_cases c26 : (ji24) < (l0_2.length : Int)
              ·rw [if_pos c26] at H
               have c26b0 : decide ((ji24) < (l0_2.length : Int)) = true := decide_eq_true c26
               clear c26
               have HC27 := Aside0.mk H
               clear H
               obtain ⟨hcz28_0, hcz28_1, hcz28_2, hfz28_0, hfz28_1, hfz28_2⟩ := cs3_ BK103.out
               have p105 : 0 ≤ ((ji24) : Int) := of_decide_eq_true tW_
               have q105 : (ji24) < (l0_2.length : Int) := of_decide_eq_true tW_
               obtain ⟨ad105, e105, hx105_0⟩ := Kd.at_int HR0_2.out (ji24) p105 q105
               cases e105
               replace hx105_0 := bc_ HB hx105_0
               replace p105 := eq_true p105
               replace q105 := eq_true q105
               go_upto_region 16 with (fail)
               go_cut [117] (fun v117 wc => ∃ (kq : Nat) (x117_26 : Bool), v117 = .bool x117_26 ∧ Aside0 (land_Validate.j5 kq x5_3 x6_4 x117_26 a0_0 a0_1 l0_2 = some r) ∧ Aside0 (kq ≤ k4) ∧ Aside0 (wc.heap[gb103]? = some (.cells #[.int .i64 a0_0, .int .i64 a0_1, (.slice (some ad105) l0_2.length c0_2)] 24 (0, 0))) ∧ Aside0 (Below w.heap.size w wc))
               case first =>
                have H := HC27.out
                clear HC27
                by_cases c29 : x6_4 < a0_0
                ·rw [if_pos c29] at H
                 have c29b0 : decide (x6_4 < a0_0) = true := decide_eq_true c29
                 clear c29
                 (first | rw [c29b0] | (simp only [i64_w, i32_w]; rw [c29b0]) | skip)
                 obtain ⟨ji30, hji30⟩ : ∃ j_ : Int, (wrap64 ((ji24) + 1)) = j_ := ⟨_, rfl⟩
                 replace H : (if 0 ≤ (ji30) then (if (ji30) < (l0_2.length : Int) then ((land_apart.f (rd l0_2 (ji24)) (rd l0_2 (ji30))).bind fun t107 => (if t107 = true then (land_Validate.j5 k4 x5_3 x6_4 true a0_0 a0_1 l0_2) else (if x5_3 < a0_1 then (if 0 ≤ (wrap64 ((wrap64 ((wrap64 (x5_3 + 1)) * (wrap64 (a0_0 + 1)))) + x6_4)) then (if (wrap64 ((wrap64 ((wrap64 (x5_3 + 1)) * (wrap64 (a0_0 + 1)))) + x6_4)) < (l0_2.length : Int) then ((land_apart.f (rd l0_2 (ji24)) (rd l0_2 (wrap64 ((wrap64 ((wrap64 (x5_3 + 1)) * (wrap64 (a0_0 + 1)))) + x6_4)))).bind fun t109 => (land_Validate.j5 k4 x5_3 x6_4 t109 a0_0 a0_1 l0_2)) else (none)) else (none)) else (land_Validate.j5 k4 x5_3 x6_4 false a0_0 a0_1 l0_2)))) else (none)) else (none)) = some r := by first | (rw [hji30] at H; exact H) | (simp only [hji30] at H ⊢; exact H)
                 have hji30w : (IntKind.i64.wrap ((ji24) + 1)) = ji30 := (i64_w _).trans hji30
                 by_cases c31 : 0 ≤ (ji30)
                 ·rw [if_pos c31] at H
                  have c31b0 : decide (0 ≤ (ji30)) = true := decide_eq_true c31
                  clear c31
                  by_cases c32 : (ji30) < (l0_2.length : Int)
                  ·rw [if_pos c32] at H
                   have c32b0 : decide ((ji30) < (l0_2.length : Int)) = true := decide_eq_true c32
                   clear c32
                   replace H := Option.bind_eq_some_iff.mp H
                   obtain ⟨t107, A330, H⟩ := H
                   replace H : (if t107 = true then (land_Validate.j5 k4 x5_3 x6_4 true a0_0 a0_1 l0_2) else (if x5_3 < a0_1 then (if 0 ≤ (wrap64 ((wrap64 ((wrap64 (x5_3 + 1)) * (wrap64 (a0_0 + 1)))) + x6_4)) then (if (wrap64 ((wrap64 ((wrap64 (x5_3 + 1)) * (wrap64 (a0_0 + 1)))) + x6_4)) < (l0_2.length : Int) then ((land_apart.f (rd l0_2 (ji24)) (rd l0_2 (wrap64 ((wrap64 ((wrap64 (x5_3 + 1)) * (wrap64 (a0_0 + 1)))) + x6_4)))).bind fun t109 => (land_Validate.j5 k4 x5_3 x6_4 t109 a0_0 a0_1 l0_2)) else (none)) else (none)) else (land_Validate.j5 k4 x5_3 x6_4 false a0_0 a0_1 l0_2))) = some r := H
                   have A33 := Aside0.mk A330
                   clear A330
                   by_cases c34 : t107 = true
                   ·subst c34
                    have H1 : (land_Validate.j5 k4 x5_3 x6_4 true a0_0 a0_1 l0_2) = some r := by rw [if_pos rfl] at H; exact H
                    clear H
                    have H := H1
                    clear H1
                    have H' := Aside0.mk H
                    clear H
                    obtain ⟨hcz35_0, hcz35_1, hcz35_2, hfz35_0, hfz35_1, hfz35_2⟩ := cs3_ BK103.out
                    have p106 : 0 ≤ ((ji30) : Int) := of_decide_eq_true tW_
                    have q106 : (ji30) < (l0_2.length : Int) := of_decide_eq_true tW_
                    obtain ⟨ad106, e106, hx106_0⟩ := Kd.at_int HR0_2.out (ji30) p106 q106
                    obtain rfl : ad105 = ad106 := (by injection e106)
                    replace hx106_0 := bc_ HB hx106_0
                    replace p106 := eq_true p106
                    replace q106 := eq_true q106
                    go_wp2_with (first | (go_at_call 42; (with_reducible refine (land_apart.calls (rd l0_2 (ji24)) (rd l0_2 (ji30)) true _ A33.out).mono ?_); rintro e w' ⟨rfl, ⟨nd, rfl⟩⟩))
                    go_meet
                    case rel => exact ⟨_, (true), tS_, H', ⟨by have := HJ1.out; have := HK2.out; have := HK3.out; have := HK4.out; first | omega | exact Nat.le_refl _⟩, ⟨dB_ BK103⟩, ⟨dL1_ HB GE103⟩⟩
                   ·replace c34 := Bool.eq_false_iff.mpr c34
                    subst c34
                    have H1 : (if x5_3 < a0_1 then (if 0 ≤ (wrap64 ((wrap64 ((wrap64 (x5_3 + 1)) * (wrap64 (a0_0 + 1)))) + x6_4)) then (if (wrap64 ((wrap64 ((wrap64 (x5_3 + 1)) * (wrap64 (a0_0 + 1)))) + x6_4)) < (l0_2.length : Int) then ((land_apart.f (rd l0_2 (ji24)) (rd l0_2 (wrap64 ((wrap64 ((wrap64 (x5_3 + 1)) * (wrap64 (a0_0 + 1)))) + x6_4)))).bind fun t109 => (land_Validate.j5 k4 x5_3 x6_4 t109 a0_0 a0_1 l0_2)) else (none)) else (none)) else (land_Validate.j5 k4 x5_3 x6_4 false a0_0 a0_1 l0_2)) = some r := by rw [if_neg (show ¬ (false = true) by decide)] at H; exact H
                    clear H
                    have H := H1
                    clear H1
                    by_cases c36 : x5_3 < a0_1
                    ·rw [if_pos c36] at H
                     have c36b0 : decide (x5_3 < a0_1) = true := decide_eq_true c36
                     clear c36
                     obtain ⟨ji37, hji37⟩ : ∃ j_ : Int, (wrap64 ((wrap64 ((wrap64 (x5_3 + 1)) * (wrap64 (a0_0 + 1)))) + x6_4)) = j_ := ⟨_, rfl⟩
                     replace H : (if 0 ≤ (ji37) then (if (ji37) < (l0_2.length : Int) then ((land_apart.f (rd l0_2 (ji24)) (rd l0_2 (ji37))).bind fun t109 => (land_Validate.j5 k4 x5_3 x6_4 t109 a0_0 a0_1 l0_2)) else (none)) else (none)) = some r := by first | (rw [hji37] at H; exact H) | (simp only [hji37] at H ⊢; exact H)
                     (try rw [hji37] at A33)
                     have hji37w : (IntKind.i64.wrap ((wrap64 ((wrap64 (x5_3 + 1)) * (wrap64 (a0_0 + 1)))) + x6_4)) = ji37 := (i64_w _).trans hji37
                     by_cases c38 : 0 ≤ (ji37)
                     ·rw [if_pos c38] at H
                      have c38b0 : decide (0 ≤ (ji37)) = true := decide_eq_true c38
                      clear c38
                      by_cases c39 : (ji37) < (l0_2.length : Int)
                      ·rw [if_pos c39] at H
                       have c39b0 : decide ((ji37) < (l0_2.length : Int)) = true := decide_eq_true c39
                       clear c39
                       replace H := Option.bind_eq_some_iff.mp H
                       obtain ⟨t109, A400, H⟩ := H
                       replace H : (land_Validate.j5 k4 x5_3 x6_4 t109 a0_0 a0_1 l0_2) = some r := H
                       have A40 := Aside0.mk A400
                       clear A400
                       have H' := Aside0.mk H
                       clear H
                       obtain ⟨hcz41_0, hcz41_1, hcz41_2, hfz41_0, hfz41_1, hfz41_2⟩ := cs3_ BK103.out
                       have p106 : 0 ≤ ((ji30) : Int) := of_decide_eq_true tW_
                       have q106 : (ji30) < (l0_2.length : Int) := of_decide_eq_true tW_
                       obtain ⟨ad106, e106, hx106_0⟩ := Kd.at_int HR0_2.out (ji30) p106 q106
                       obtain rfl : ad105 = ad106 := (by injection e106)
                       replace hx106_0 := bc_ HB hx106_0
                       replace p106 := eq_true p106
                       replace q106 := eq_true q106
                       go_wp2_with (first | (go_at_call 42; (with_reducible refine (land_apart.calls (rd l0_2 (ji24)) (rd l0_2 (ji30)) false _ A33.out).mono ?_); rintro e w' ⟨rfl, ⟨nd, rfl⟩⟩; have p108 : 0 ≤ ((ji37) : Int) := of_decide_eq_true tW_; have q108 : (ji37) < (l0_2.length : Int) := of_decide_eq_true tW_; obtain ⟨ad108, e108, hx108_0⟩ := Kd.at_int HR0_2.out (ji37) p108 q108; obtain rfl : ad105 = ad108 := (by injection e108); replace hx108_0 := bc_ HB hx108_0; replace p108 := eq_true p108; replace q108 := eq_true q108) | (go_at_call 42; (with_reducible refine (land_apart.calls (rd l0_2 (ji24)) (rd l0_2 (ji37)) t109 _ A40.out).mono ?_); rintro e w' ⟨rfl, ⟨nd, rfl⟩⟩))
                       go_meet
                       case rel => exact ⟨_, (t109), tS_, H', ⟨by have := HJ1.out; have := HK2.out; have := HK3.out; have := HK4.out; first | omega | exact Nat.le_refl _⟩, ⟨dB_ BK103⟩, ⟨dL1_ HB GE103⟩⟩
                      ·rw [if_neg c39] at H
                       exact absurd H (by simp)
                     ·rw [if_neg c38] at H
                      exact absurd H (by simp)
                    ·rw [if_neg c36] at H
                     have c36b0 : decide (x5_3 < a0_1) = false := decide_eq_false c36
                     clear c36
                     have H' := Aside0.mk H
                     clear H
                     obtain ⟨hcz42_0, hcz42_1, hcz42_2, hfz42_0, hfz42_1, hfz42_2⟩ := cs3_ BK103.out
                     have p106 : 0 ≤ ((ji30) : Int) := of_decide_eq_true tW_
                     have q106 : (ji30) < (l0_2.length : Int) := of_decide_eq_true tW_
                     obtain ⟨ad106, e106, hx106_0⟩ := Kd.at_int HR0_2.out (ji30) p106 q106
                     obtain rfl : ad105 = ad106 := (by injection e106)
                     replace hx106_0 := bc_ HB hx106_0
                     replace p106 := eq_true p106
                     replace q106 := eq_true q106
                     go_wp2_with (first | (go_at_call 42; (with_reducible refine (land_apart.calls (rd l0_2 (ji24)) (rd l0_2 (ji30)) false _ A33.out).mono ?_); rintro e w' ⟨rfl, ⟨nd, rfl⟩⟩))
                     go_meet
                     case rel => exact ⟨_, (false), tS_, H', ⟨by have := HJ1.out; have := HK2.out; have := HK3.out; have := HK4.out; first | omega | exact Nat.le_refl _⟩, ⟨dB_ BK103⟩, ⟨dL1_ HB GE103⟩⟩
                  ·rw [if_neg c32] at H
                   exact absurd H (by simp)
                 ·rw [if_neg c31] at H
                  exact absurd H (by simp)
                ·rw [if_neg c29] at H
                 have c29b0 : decide (x6_4 < a0_0) = false := decide_eq_false c29
                 clear c29
                 (first | rw [c29b0] | (simp only [i64_w, i32_w]; rw [c29b0]) | skip)
                 by_cases c43 : x5_3 < a0_1
                 ·rw [if_pos c43] at H
                  have c43b0 : decide (x5_3 < a0_1) = true := decide_eq_true c43
                  clear c43
                  obtain ⟨ji44, hji44⟩ : ∃ j_ : Int, (wrap64 ((wrap64 ((wrap64 (x5_3 + 1)) * (wrap64 (a0_0 + 1)))) + x6_4)) = j_ := ⟨_, rfl⟩
                  replace H : (if 0 ≤ (ji44) then (if (ji44) < (l0_2.length : Int) then ((land_apart.f (rd l0_2 (ji24)) (rd l0_2 (ji44))).bind fun t111 => (land_Validate.j5 k4 x5_3 x6_4 t111 a0_0 a0_1 l0_2)) else (none)) else (none)) = some r := by first | (rw [hji44] at H; exact H) | (simp only [hji44] at H ⊢; exact H)
                  have hji44w : (IntKind.i64.wrap ((wrap64 ((wrap64 (x5_3 + 1)) * (wrap64 (a0_0 + 1)))) + x6_4)) = ji44 := (i64_w _).trans hji44
                  by_cases c45 : 0 ≤ (ji44)
                  ·rw [if_pos c45] at H
                   have c45b0 : decide (0 ≤ (ji44)) = true := decide_eq_true c45
                   clear c45
                   by_cases c46 : (ji44) < (l0_2.length : Int)
                   ·rw [if_pos c46] at H
                    have c46b0 : decide ((ji44) < (l0_2.length : Int)) = true := decide_eq_true c46
                    clear c46
                    replace H := Option.bind_eq_some_iff.mp H
                    obtain ⟨t111, A470, H⟩ := H
                    replace H : (land_Validate.j5 k4 x5_3 x6_4 t111 a0_0 a0_1 l0_2) = some r := H
                    have A47 := Aside0.mk A470
                    clear A470
                    have H' := Aside0.mk H
                    clear H
                    obtain ⟨hcz48_0, hcz48_1, hcz48_2, hfz48_0, hfz48_1, hfz48_2⟩ := cs3_ BK103.out
                    have p110 : 0 ≤ ((ji44) : Int) := of_decide_eq_true tW_
                    have q110 : (ji44) < (l0_2.length : Int) := of_decide_eq_true tW_
                    obtain ⟨ad110, e110, hx110_0⟩ := Kd.at_int HR0_2.out (ji44) p110 q110
                    obtain rfl : ad105 = ad110 := (by injection e110)
                    replace hx110_0 := bc_ HB hx110_0
                    replace p110 := eq_true p110
                    replace q110 := eq_true q110
                    go_wp2_with (first | (go_at_call 42; (with_reducible refine (land_apart.calls (rd l0_2 (ji24)) (rd l0_2 (ji44)) t111 _ A47.out).mono ?_); rintro e w' ⟨rfl, ⟨nd, rfl⟩⟩))
                    go_meet
                    case rel => exact ⟨_, (t111), tS_, H', ⟨by have := HJ1.out; have := HK2.out; have := HK3.out; have := HK4.out; first | omega | exact Nat.le_refl _⟩, ⟨dB_ BK103⟩, ⟨dL1_ HB GE103⟩⟩
                   ·rw [if_neg c46] at H
                    exact absurd H (by simp)
                  ·rw [if_neg c45] at H
                   exact absurd H (by simp)
                 ·rw [if_neg c43] at H
                  have c43b0 : decide (x5_3 < a0_1) = false := decide_eq_false c43
                  clear c43
                  have H' := Aside0.mk H
                  clear H
                  obtain ⟨hcz49_0, hcz49_1, hcz49_2, hfz49_0, hfz49_1, hfz49_2⟩ := cs3_ BK103.out
                  go_wp2
                  go_meet
                  case rel => exact ⟨_, (false), tS_, H', ⟨by have := HJ1.out; have := HK2.out; have := HK3.out; have := HK4.out; first | omega | exact Nat.le_refl _⟩, ⟨dB_ BK103⟩, ⟨dL1_ HB GE103⟩⟩
               case rest =>
                clear HC27
                try clear c4
                try clear c6
                try clear c8
                try clear c10
                try clear c13
                try clear c15
                try clear c15b0
                try clear c16
                try clear c17
                try clear c19
                try clear c21
                try clear c21b0
                try clear c23
                try clear c23b0
                try clear c25
                try clear c25b0
                try clear c26
                try clear c26b0
                try clear c29
                try clear c31
                try clear c32
                try clear c36
                try clear c38
                try clear c39
                try clear c43
                try clear c45
                try clear c46
                try clear hcz14_0
                try clear hcz14_1
                try clear hcz14_2
                try clear hcz22_0
                try clear hcz22_1
                try clear hcz22_2
                try clear hcz28_0
                try clear hcz28_1
                try clear hcz28_2
                try clear hfz14_0
                try clear hfz14_1
                try clear hfz14_2
                try clear hfz22_0
                try clear hfz22_1
                try clear hfz22_2
                try clear hfz28_0
                try clear hfz28_1
                try clear hfz28_2
                try clear hx105_0
                try clear p105
                try clear q105
                obtain ⟨kq, x117_26, rfl, HA, HJ26, BK103, HB⟩ := hcut
                cases kq with
                | zero => exact absurd HA.out (by simp [land_Validate.j5])
                | succ kj26 =>
                 have H := HA.out
                 clear HA
                 simp only [land_Validate.j5] at H
                 by_cases c50 : x117_26 = true
                 ·subst c50
                  have H1 : (some 5) = some r := by rw [if_pos rfl] at H; exact H
                  clear H
                  have H := H1
                  clear H1
                  obtain rfl := Option.some.inj H
                  go_wp2
                  go_ret
                  exact ⟨by first | rfl | (simp [errW_none, errW_some] <;> rfl) | (simp only [← hji24]; first | rfl | (simp [errW_none, errW_some] <;> rfl)) | (simp [*, errW_none, errW_some] <;> rfl), dL1_ HB GE103⟩
                 ·replace c50 := Bool.eq_false_iff.mpr c50
                  subst c50
                  have H1 : (land_Validate.l2 kj26 x5_3 (wrap64 (x6_4 + 1)) a0_0 a0_1 l0_2) = some r := by rw [if_neg (show ¬ (false = true) by decide)] at H; exact H
                  clear H
                  have H := H1
                  clear H1
                  have H' := Aside0.mk H
                  clear H
                  go_wp2
                  go_roundg kj26
                  case measure => have := HJ1.out; have := HK2.out; have := HK3.out; have := HK4.out; have := HJ26.out; omega
                  case rel => exact ⟨(wrap64 (x6_4 + 1)), tS_, H', ⟨by have := HJ1.out; have := HK2.out; have := HK3.out; have := HK4.out; have := HJ26.out; omega⟩, ⟨dB_ BK103⟩, ⟨dL1_ HB GE103⟩⟩
              ·rw [if_neg c26] at H
               exact absurd H (by simp)
             ·rw [if_neg c25] at H
              exact absurd H (by simp)
            ·rw [if_neg c23] at H
             have c23b0 : decide (x6_4 ≤ a0_0) = false := decide_eq_false c23
             clear c23
             have H' := Aside0.mk H
             clear H
             obtain ⟨hcz51_0, hcz51_1, hcz51_2, hfz51_0, hfz51_1, hfz51_2⟩ := cs3_ BK103.out
             go_wp2
             go_roundg k4
             case measure => have := HJ1.out; have := HK2.out; have := HK3.out; have := HK4.out; omega
             case rel => exact ⟨(wrap64 (x5_3 + 1)), tS_, H', ⟨by have := HJ1.out; have := HK2.out; have := HK3.out; have := HK4.out; omega⟩, ⟨dB_ BK103⟩, ⟨dL1_ HB GE103⟩⟩
         ·rw [if_neg c21] at H
          have c21b0 : decide (x5_3 ≤ a0_1) = false := decide_eq_false c21
          clear c21
          obtain rfl := Option.some.inj H
          obtain ⟨hcz52_0, hcz52_1, hcz52_2, hfz52_0, hfz52_1, hfz52_2⟩ := cs3_ BK103.out
          go_wp2
          go_ret
          exact ⟨tE_, dL1_ HB GE103⟩

end Go.Proofs.Ytchflcnegpnkkaa.Q
