-- PRINTED by print.py (a twelfth state) out of the translation. Not trusted: Lean checks it.
import Derived.Test.YtchflcnegpnkkaaPrs
import Derived.Test.YtchflcnegpnkkaaQ0
import Derived.Test.YtchflcnegpnkkaaQ11
namespace Go.Proofs.Ytchflcnegpnkkaa.Q
open Go.RowKit Go.Proofs.YtchflcnegpnkkaaPrs Go.Proofs.YtchflcnegpnkkaaOwn Go.Proofs.YtchflcnegpnkkaaW.PrintWords Go.Proofs.YtchflcnegpnkkaaW.PrintLast Go.Proofs.YtchflcnegpnkkaaW.PrintMore
attribute [local go_sem] max2_int min2_int max_two min_two max_three min_three max_four min_four   -- for this text's walks alone
set_option linter.unusedVariables false
set_option linter.unusedSimpArgs false

/-! ### hinterlandref02_Validate: function 18 -/
mutual
def hinterlandref02_Validate.j0 : Nat → Bool → Int → Int → List Int → Option (Int)
  | 0, _, _, _, _ => none
  | k + 1, x29, x178000, x178001, x178002 => if x29 = true then (some 1) else (hinterlandref02_Validate.l0 k x178002 (x178002.length : Int) 0 x178000 x178001 x178002)
def hinterlandref02_Validate.l0 : Nat → List Int → Int → Int → Int → Int → List Int → Option (Int)
  | 0, _, _, _, _, _, _ => none
  | k + 1, x31, x32, x33, x178000, x178001, x178002 => if x33 < x32 then (if 0 ≤ x33 then (if x33 < (x31.length : Int) then (if (rd x31 x33) < 0 then (hinterlandref02_Validate.j2 k x31 x32 x33 true x178000 x178001 x178002) else (hinterlandref02_Validate.j2 k x31 x32 x33 (decide ((rd x31 x33) > 15)) x178000 x178001 x178002)) else (none)) else (none)) else (hinterlandref02_Validate.l1 k x178002 (x178002.length : Int) 0 x178000 x178001 x178002)
def hinterlandref02_Validate.j2 : Nat → List Int → Int → Int → Bool → Int → Int → List Int → Option (Int)
  | 0, _, _, _, _, _, _, _ => none
  | k + 1, x31, x32, x33, x42, x178000, x178001, x178002 => if x42 = true then (some 1) else (hinterlandref02_Validate.l0 k x31 x32 (wrap64 (x33 + 1)) x178000 x178001 x178002)
def hinterlandref02_Validate.l1 : Nat → List Int → Int → Int → Int → Int → List Int → Option (Int)
  | 0, _, _, _, _, _, _ => none
  | k + 1, x45, x46, x47, x178000, x178001, x178002 => if x47 < x46 then (if 0 ≤ x47 then (if x47 < (x45.length : Int) then (if (wrap64 (x178000 + 1)) = 0 then (none) else (if (Int.tmod x47 (wrap64 (x178000 + 1))) > 0 then (if 0 ≤ (wrap64 (x47 - 1)) then (if (wrap64 (x47 - 1)) < (x178002.length : Int) then ((hinterlandref02_Apart.f (rd x45 x47) (rd x178002 (wrap64 (x47 - 1)))).bind fun t183 => (if t183 > 1 then (hinterlandref02_Validate.j4 k x45 x46 x47 true x178000 x178001 x178002) else (if x47 > x178000 then (if 0 ≤ (wrap64 ((wrap64 (x47 - x178000)) - 1)) then (if (wrap64 ((wrap64 (x47 - x178000)) - 1)) < (x178002.length : Int) then ((hinterlandref02_Apart.f (rd x45 x47) (rd x178002 (wrap64 ((wrap64 (x47 - x178000)) - 1)))).bind fun t185 => (hinterlandref02_Validate.j4 k x45 x46 x47 (decide (t185 > 1)) x178000 x178001 x178002)) else (none)) else (none)) else (hinterlandref02_Validate.j4 k x45 x46 x47 false x178000 x178001 x178002)))) else (none)) else (none)) else (if x47 > x178000 then (if 0 ≤ (wrap64 ((wrap64 (x47 - x178000)) - 1)) then (if (wrap64 ((wrap64 (x47 - x178000)) - 1)) < (x178002.length : Int) then ((hinterlandref02_Apart.f (rd x45 x47) (rd x178002 (wrap64 ((wrap64 (x47 - x178000)) - 1)))).bind fun t187 => (hinterlandref02_Validate.j4 k x45 x46 x47 (decide (t187 > 1)) x178000 x178001 x178002)) else (none)) else (none)) else (hinterlandref02_Validate.j4 k x45 x46 x47 false x178000 x178001 x178002)))) else (none)) else (none)) else (some 0)
def hinterlandref02_Validate.j4 : Nat → List Int → Int → Int → Bool → Int → Int → List Int → Option (Int)
  | 0, _, _, _, _, _, _, _ => none
  | k + 1, x45, x46, x47, x88, x178000, x178001, x178002 => if x88 = true then (some 5) else (hinterlandref02_Validate.l1 k x45 x46 (wrap64 (x47 + 1)) x178000 x178001 x178002)
end
def hinterlandref02_Validate.f (k : Nat) (a0_0 : Int) (a0_1 : Int) (l0_2 : List Int) : Option (Int) := (hinterlandref02_side.f a0_0).bind fun t178 => (if t178 = true then ((hinterlandref02_side.f a0_1).bind fun t179 => (if t179 = true then (hinterlandref02_Validate.j0 k ((l0_2.length : Int) != (wrap64 ((wrap64 (a0_0 + 1)) * (wrap64 (a0_1 + 1))))) a0_0 a0_1 l0_2) else (hinterlandref02_Validate.j0 k true a0_0 a0_1 l0_2))) else (hinterlandref02_Validate.j0 k true a0_0 a0_1 l0_2))
theorem hinterlandref02_Validate.mono_l : ∀ k, (∀ y0 y1 y2 y3, LeO (hinterlandref02_Validate.j0 k y0 y1 y2 y3) (hinterlandref02_Validate.j0 (k + 1) y0 y1 y2 y3)) ∧ (∀ y0 y1 y2 y3 y4 y5, LeO (hinterlandref02_Validate.l0 k y0 y1 y2 y3 y4 y5) (hinterlandref02_Validate.l0 (k + 1) y0 y1 y2 y3 y4 y5)) ∧ (∀ y0 y1 y2 y3 y4 y5 y6, LeO (hinterlandref02_Validate.j2 k y0 y1 y2 y3 y4 y5 y6) (hinterlandref02_Validate.j2 (k + 1) y0 y1 y2 y3 y4 y5 y6)) ∧ (∀ y0 y1 y2 y3 y4 y5, LeO (hinterlandref02_Validate.l1 k y0 y1 y2 y3 y4 y5) (hinterlandref02_Validate.l1 (k + 1) y0 y1 y2 y3 y4 y5)) ∧ (∀ y0 y1 y2 y3 y4 y5 y6, LeO (hinterlandref02_Validate.j4 k y0 y1 y2 y3 y4 y5 y6) (hinterlandref02_Validate.j4 (k + 1) y0 y1 y2 y3 y4 y5 y6))
  | 0 => ⟨fun _ _ _ _ r h => by simp [hinterlandref02_Validate.j0] at h, fun _ _ _ _ _ _ r h => by simp [hinterlandref02_Validate.l0] at h, fun _ _ _ _ _ _ _ r h => by simp [hinterlandref02_Validate.j2] at h, fun _ _ _ _ _ _ r h => by simp [hinterlandref02_Validate.l1] at h, fun _ _ _ _ _ _ _ r h => by simp [hinterlandref02_Validate.j4] at h⟩
  | k + 1 => by
    obtain ⟨ih0, ih1, ih2, ih3, ih4⟩ := hinterlandref02_Validate.mono_l k
    refine ⟨?_, ?_, ?_, ?_, ?_⟩
    · intro y0 y1 y2 y3
      unfold hinterlandref02_Validate.j0
      repeat' first
      | (with_reducible first | exact ih0 _ _ _ _ | exact ih1 _ _ _ _ _ _ | exact ih2 _ _ _ _ _ _ _ | exact ih3 _ _ _ _ _ _ | exact ih4 _ _ _ _ _ _ _ | exact LeO.refl _ | exact LeO.none _ | refine LeO.ite ?_ ?_ | refine LeO.bind ?_ (fun _ => ?_))
      | exact ih0 _ _ _ _
      | exact ih1 _ _ _ _ _ _
      | exact ih2 _ _ _ _ _ _ _
      | exact ih3 _ _ _ _ _ _
      | exact ih4 _ _ _ _ _ _ _
      | exact LeO.none _
      | refine LeO.ite ?_ ?_
      | refine LeO.bind ?_ (fun _ => ?_)
    · intro y0 y1 y2 y3 y4 y5
      unfold hinterlandref02_Validate.l0
      repeat' first
      | (with_reducible first | exact ih0 _ _ _ _ | exact ih1 _ _ _ _ _ _ | exact ih2 _ _ _ _ _ _ _ | exact ih3 _ _ _ _ _ _ | exact ih4 _ _ _ _ _ _ _ | exact LeO.refl _ | exact LeO.none _ | refine LeO.ite ?_ ?_ | refine LeO.bind ?_ (fun _ => ?_))
      | exact ih0 _ _ _ _
      | exact ih1 _ _ _ _ _ _
      | exact ih2 _ _ _ _ _ _ _
      | exact ih3 _ _ _ _ _ _
      | exact ih4 _ _ _ _ _ _ _
      | exact LeO.none _
      | refine LeO.ite ?_ ?_
      | refine LeO.bind ?_ (fun _ => ?_)
    · intro y0 y1 y2 y3 y4 y5 y6
      unfold hinterlandref02_Validate.j2
      repeat' first
      | (with_reducible first | exact ih0 _ _ _ _ | exact ih1 _ _ _ _ _ _ | exact ih2 _ _ _ _ _ _ _ | exact ih3 _ _ _ _ _ _ | exact ih4 _ _ _ _ _ _ _ | exact LeO.refl _ | exact LeO.none _ | refine LeO.ite ?_ ?_ | refine LeO.bind ?_ (fun _ => ?_))
      | exact ih0 _ _ _ _
      | exact ih1 _ _ _ _ _ _
      | exact ih2 _ _ _ _ _ _ _
      | exact ih3 _ _ _ _ _ _
      | exact ih4 _ _ _ _ _ _ _
      | exact LeO.none _
      | refine LeO.ite ?_ ?_
      | refine LeO.bind ?_ (fun _ => ?_)
    · intro y0 y1 y2 y3 y4 y5
      unfold hinterlandref02_Validate.l1
      repeat' first
      | (with_reducible first | exact ih0 _ _ _ _ | exact ih1 _ _ _ _ _ _ | exact ih2 _ _ _ _ _ _ _ | exact ih3 _ _ _ _ _ _ | exact ih4 _ _ _ _ _ _ _ | exact LeO.refl _ | exact LeO.none _ | refine LeO.ite ?_ ?_ | refine LeO.bind ?_ (fun _ => ?_))
      | exact ih0 _ _ _ _
      | exact ih1 _ _ _ _ _ _
      | exact ih2 _ _ _ _ _ _ _
      | exact ih3 _ _ _ _ _ _
      | exact ih4 _ _ _ _ _ _ _
      | exact LeO.none _
      | refine LeO.ite ?_ ?_
      | refine LeO.bind ?_ (fun _ => ?_)
    · intro y0 y1 y2 y3 y4 y5 y6
      unfold hinterlandref02_Validate.j4
      repeat' first
      | (with_reducible first | exact ih0 _ _ _ _ | exact ih1 _ _ _ _ _ _ | exact ih2 _ _ _ _ _ _ _ | exact ih3 _ _ _ _ _ _ | exact ih4 _ _ _ _ _ _ _ | exact LeO.refl _ | exact LeO.none _ | refine LeO.ite ?_ ?_ | refine LeO.bind ?_ (fun _ => ?_))
      | exact ih0 _ _ _ _
      | exact ih1 _ _ _ _ _ _
      | exact ih2 _ _ _ _ _ _ _
      | exact ih3 _ _ _ _ _ _
      | exact ih4 _ _ _ _ _ _ _
      | exact LeO.none _
      | refine LeO.ite ?_ ?_
      | refine LeO.bind ?_ (fun _ => ?_)
theorem hinterlandref02_Validate.mono : ∀ a0 a1 a2 k, LeO (hinterlandref02_Validate.f k a0 a1 a2) (hinterlandref02_Validate.f (k + 1) a0 a1 a2) := by
  intro a0 a1 a2 k
  obtain ⟨ih0, ih1, ih2, ih3, ih4⟩ := hinterlandref02_Validate.mono_l k
  unfold hinterlandref02_Validate.f
  repeat' first
      | (with_reducible first | exact ih0 _ _ _ _ | exact ih1 _ _ _ _ _ _ | exact ih2 _ _ _ _ _ _ _ | exact ih3 _ _ _ _ _ _ | exact ih4 _ _ _ _ _ _ _ | exact LeO.refl _ | exact LeO.none _ | refine LeO.ite ?_ ?_ | refine LeO.bind ?_ (fun _ => ?_))
      | exact ih0 _ _ _ _
      | exact ih1 _ _ _ _ _ _
      | exact ih2 _ _ _ _ _ _ _
      | exact ih3 _ _ _ _ _ _
      | exact ih4 _ _ _ _ _ _ _
      | exact LeO.none _
      | refine LeO.ite ?_ ?_
      | refine LeO.bind ?_ (fun _ => ?_)
set_option maxHeartbeats 8000000 in
set_option maxRecDepth 100000 in
theorem hinterlandref02_Validate.calls (k : Nat) (a0_0 : Int) (a0_1 : Int) (A0_2 : Option Addr) (c0_2 : Nat) (l0_2 : List Int) (r : Int) (w : World) (hr0_2 : Kd.C (Kd.int .i64) w A0_2 l0_2.length l0_2) (hc0_2 : l0_2.length ≤ c0_2) (h : hinterlandref02_Validate.f k a0_0 a0_1 l0_2 = some r) :
    Calls Try.prog 18 #[.agg #[.int .i64 a0_0, .int .i64 a0_1, .slice A0_2 l0_2.length c0_2]] w fun e w' => e = .returned (.int .i64 r) ∧ Below w.heap.size w w' := by
 have hu24 := Try.underlying24
 have HR0_2 := Aside0.mk hr0_2
 have HC0_2 := Aside0.mk hc0_2
 clear hr0_2 hc0_2
 have HB := Aside0.mk (Below.refl w.heap.size w)
 have H : ((hinterlandref02_side.f a0_0).bind fun t178 => (if t178 = true then ((hinterlandref02_side.f a0_1).bind fun t179 => (if t179 = true then (hinterlandref02_Validate.j0 k ((l0_2.length : Int) != (wrap64 ((wrap64 (a0_0 + 1)) * (wrap64 (a0_1 + 1))))) a0_0 a0_1 l0_2) else (hinterlandref02_Validate.j0 k true a0_0 a0_1 l0_2))) else (hinterlandref02_Validate.j0 k true a0_0 a0_1 l0_2))) = some r := h
 clear h
 have HC2 := Aside0.mk H
 clear H
 go_enter Try.func18, Try.ntmps18
 go_upto_region 1 with (first | ((with_reducible refine gate_dst (N := 1) rfl ?_); (try (refine gate_guard (by rfl) ?_; dsimp only)); refine box_event ?hg (N := 1) ?hd (cs := #[.int .i64 a0_0, .int .i64 a0_1, .slice A0_2 l0_2.length c0_2]) (t := 24) ?hr ?_; (case hd => rfl); (case hg => rfl); (case hr => first | (go_simp; done) | (go_simp; rfl)); intro gb177 hg w3 hbox hb; have BK177 := Aside0.mk (hbox); have GW177 := Aside0.mk ((dS_ hg (dL_ HB) : w.heap.size ≤ gb177)); have GE177 := Aside0.mk ((dS_ hg (dL_ HB) : w.heap.size ≤ gb177)); replace HB := Aside0.mk (below_step (dL_ HB) hb); clear hb hbox hg))
 (try simp only [Act.put, List.setIfInBounds_toArray, List.set_cons_zero, List.set_cons_succ])
 go_cut [29] (fun v29 wc => ∃ (kq : Nat) (x29_1 : Bool), v29 = .bool x29_1 ∧ Aside0 (hinterlandref02_Validate.j0 kq x29_1 a0_0 a0_1 l0_2 = some r) ∧ Aside0 (kq ≤ k) ∧ Aside0 (wc.heap[gb177]? = some (.cells #[.int .i64 a0_0, .int .i64 a0_1, (.slice A0_2 l0_2.length c0_2)] 24 (0, 0))) ∧ Aside0 (Below w.heap.size w wc))
 case first =>
  have H := HC2.out
  clear HC2
  replace H := Option.bind_eq_some_iff.mp H
  obtain ⟨t178, A40, H⟩ := H
  replace H : (if t178 = true then ((hinterlandref02_side.f a0_1).bind fun t179 => (if t179 = true then (hinterlandref02_Validate.j0 k ((l0_2.length : Int) != (wrap64 ((wrap64 (a0_0 + 1)) * (wrap64 (a0_1 + 1))))) a0_0 a0_1 l0_2) else (hinterlandref02_Validate.j0 k true a0_0 a0_1 l0_2))) else (hinterlandref02_Validate.j0 k true a0_0 a0_1 l0_2)) = some r := H
  have A4 := Aside0.mk A40
  clear A40
  by_cases c5 : t178 = true
  ·subst c5
   have H1 : ((hinterlandref02_side.f a0_1).bind fun t179 => (if t179 = true then (hinterlandref02_Validate.j0 k ((l0_2.length : Int) != (wrap64 ((wrap64 (a0_0 + 1)) * (wrap64 (a0_1 + 1))))) a0_0 a0_1 l0_2) else (hinterlandref02_Validate.j0 k true a0_0 a0_1 l0_2))) = some r := by rw [if_pos rfl] at H; exact H
   clear H
   have H := H1
   clear H1
   replace H := Option.bind_eq_some_iff.mp H
   obtain ⟨t179, A60, H⟩ := H
   replace H : (if t179 = true then (hinterlandref02_Validate.j0 k ((l0_2.length : Int) != (wrap64 ((wrap64 (a0_0 + 1)) * (wrap64 (a0_1 + 1))))) a0_0 a0_1 l0_2) else (hinterlandref02_Validate.j0 k true a0_0 a0_1 l0_2)) = some r := H
   have A6 := Aside0.mk A60
   clear A60
   by_cases c7 : t179 = true
   ·subst c7
    have H1 : (hinterlandref02_Validate.j0 k ((l0_2.length : Int) != (wrap64 ((wrap64 (a0_0 + 1)) * (wrap64 (a0_1 + 1))))) a0_0 a0_1 l0_2) = some r := by rw [if_pos rfl] at H; exact H
    clear H
    have H := H1
    clear H1
    have H' := Aside0.mk H
    clear H
    obtain ⟨hcz8_0, hcz8_1, hcz8_2, hfz8_0, hfz8_1, hfz8_2⟩ := cs3_ BK177.out
    go_wp2_with (first | ((with_reducible refine gate_callee (f := 43) rfl ?_); refine goesL_ (some 9) rfl rfl Try.func43 (by kernel_rfl) rfl #[.int .i64 a0_0] rfl tA_ ?_; (with_reducible refine (hinterlandref02_side.calls a0_0 true _ A4.out).mono ?_); rintro e w' ⟨rfl, ⟨nd, rfl⟩⟩; refine ⟨_, rfl, ?_⟩) | (go_at_call 43; (with_reducible refine (hinterlandref02_side.calls a0_1 true _ A6.out).mono ?_); rintro e w' ⟨rfl, ⟨nd, rfl⟩⟩))
    go_meet
    case rel => exact ⟨_, (((l0_2.length : Int) != (wrap64 ((wrap64 (a0_0 + 1)) * (wrap64 (a0_1 + 1)))))), tS_, H', ⟨by first | omega | exact Nat.le_refl _⟩, ⟨dB_ BK177⟩, ⟨dL1_ HB GE177⟩⟩
   ·replace c7 := Bool.eq_false_iff.mpr c7
    subst c7
    have H1 : (hinterlandref02_Validate.j0 k true a0_0 a0_1 l0_2) = some r := by rw [if_neg (show ¬ (false = true) by decide)] at H; exact H
    clear H
    have H := H1
    clear H1
    have H' := Aside0.mk H
    clear H
    obtain ⟨hcz9_0, hcz9_1, hcz9_2, hfz9_0, hfz9_1, hfz9_2⟩ := cs3_ BK177.out
    go_wp2_with (first | ((with_reducible refine gate_callee (f := 43) rfl ?_); refine goesL_ (some 9) rfl rfl Try.func43 (by kernel_rfl) rfl #[.int .i64 a0_0] rfl tA_ ?_; (with_reducible refine (hinterlandref02_side.calls a0_0 true _ A4.out).mono ?_); rintro e w' ⟨rfl, ⟨nd, rfl⟩⟩; refine ⟨_, rfl, ?_⟩) | (go_at_call 43; (with_reducible refine (hinterlandref02_side.calls a0_1 false _ A6.out).mono ?_); rintro e w' ⟨rfl, ⟨nd, rfl⟩⟩))
    go_meet
    case rel => exact ⟨_, (true), tS_, H', ⟨by first | omega | exact Nat.le_refl _⟩, ⟨dB_ BK177⟩, ⟨dL1_ HB GE177⟩⟩
  ·replace c5 := Bool.eq_false_iff.mpr c5
   subst c5
   have H1 : (hinterlandref02_Validate.j0 k true a0_0 a0_1 l0_2) = some r := by rw [if_neg (show ¬ (false = true) by decide)] at H; exact H
   clear H
   have H := H1
   clear H1
   have H' := Aside0.mk H
   clear H
   obtain ⟨hcz10_0, hcz10_1, hcz10_2, hfz10_0, hfz10_1, hfz10_2⟩ := cs3_ BK177.out
   go_wp2_with (first | ((with_reducible refine gate_callee (f := 43) rfl ?_); refine goesL_ (some 9) rfl rfl Try.func43 (by kernel_rfl) rfl #[.int .i64 a0_0] rfl tA_ ?_; (with_reducible refine (hinterlandref02_side.calls a0_0 false _ A4.out).mono ?_); rintro e w' ⟨rfl, ⟨nd, rfl⟩⟩; refine ⟨_, rfl, ?_⟩))
   go_meet
   case rel => exact ⟨_, (true), tS_, H', ⟨by first | omega | exact Nat.le_refl _⟩, ⟨dB_ BK177⟩, ⟨dL1_ HB GE177⟩⟩
 case rest =>
  clear HC2
  obtain ⟨kq, x29_1, rfl, HA, HJ1, BK177, HB⟩ := hcut
  cases kq with
  | zero => exact absurd HA.out (by simp [hinterlandref02_Validate.j0])
  | succ kj1 =>
   have H := HA.out
   clear HA
   simp only [hinterlandref02_Validate.j0] at H
   by_cases c11 : x29_1 = true
   ·subst c11
    have H1 : (some 1) = some r := by rw [if_pos rfl] at H; exact H
    clear H
    have H := H1
    clear H1
    obtain rfl := Option.some.inj H
    go_wp2
    go_ret
    exact ⟨tE_, dL1_ HB GE177⟩
   ·replace c11 := Bool.eq_false_iff.mpr c11
    subst c11
    have H1 : (hinterlandref02_Validate.l0 kj1 l0_2 (l0_2.length : Int) 0 a0_0 a0_1 l0_2) = some r := by rw [if_neg (show ¬ (false = true) by decide)] at H; exact H
    clear H
    have H := H1
    clear H1
    have H' := Aside0.mk H
    clear H
    obtain ⟨hcz12_0, hcz12_1, hcz12_2, hfz12_0, hfz12_1, hfz12_2⟩ := cs3_ BK177.out
    go_wp2
    go_loopg [33] kj1 (fun kq v33 w' => ∃ (x33_2 : Int), v33 = .int .i64 x33_2 ∧ Aside0 (hinterlandref02_Validate.l0 kq l0_2 (l0_2.length : Int) x33_2 a0_0 a0_1 l0_2 = some r) ∧ Aside0 (kq ≤ kj1) ∧ Aside0 (w'.heap[gb177]? = some (.cells #[.int .i64 a0_0, .int .i64 a0_1, (.slice A0_2 l0_2.length c0_2)] 24 (0, 0))) ∧ Aside0 (Below w.heap.size w w'))
    case atStart => exact ⟨(0), tS_, H', ⟨Nat.le_refl _⟩, ⟨dB_ BK177⟩, ⟨dL1_ HB GE177⟩⟩
    case round =>
     clear H'
     try clear c11
     try clear hcz12_0
     try clear hcz12_1
     try clear hcz12_2
     try clear hfz12_0
     try clear hfz12_1
     try clear hfz12_2
     obtain ⟨x33_2, rfl, HA, HK2, BK177, HB⟩ := hrel
     cases gk with
     | zero => exact absurd HA.out (by simp [hinterlandref02_Validate.l0])
     | succ k2 =>
      have H := HA.out
      clear HA
      simp only [hinterlandref02_Validate.l0] at H
      by_cases c13 : x33_2 < (l0_2.length : Int)
      ·rw [if_pos c13] at H
       have c13b0 : decide (x33_2 < (l0_2.length : Int)) = true := decide_eq_true c13
       clear c13
       by_cases c14 : 0 ≤ x33_2
       ·rw [if_pos c14] at H
        have c14b0 : decide (0 ≤ x33_2) = true := decide_eq_true c14
        clear c14
        by_cases c15 : x33_2 < (l0_2.length : Int)
        ·rw [if_pos c15] at H
         have c15b0 : decide (x33_2 < (l0_2.length : Int)) = true := decide_eq_true c15
         clear c15
         have HC16 := Aside0.mk H
         clear H
         have p180 : 0 ≤ (x33_2 : Int) := of_decide_eq_true tW_
         have q180 : x33_2 < (l0_2.length : Int) := of_decide_eq_true tW_
         obtain ⟨ad180, e180, hx180_0⟩ := Kd.at_int HR0_2.out x33_2 p180 q180
         cases e180
         replace hx180_0 := bc_ HB hx180_0
         replace p180 := eq_true p180
         replace q180 := eq_true q180
         go_upto_region 6 with (fail)
         go_cut [42] (fun v42 wc => ∃ (kq : Nat) (x42_15 : Bool), v42 = .bool x42_15 ∧ Aside0 (hinterlandref02_Validate.j2 kq l0_2 (l0_2.length : Int) x33_2 x42_15 a0_0 a0_1 l0_2 = some r) ∧ Aside0 (kq ≤ k2) ∧ Aside0 (wc.heap[gb177]? = some (.cells #[.int .i64 a0_0, .int .i64 a0_1, (.slice (some ad180) l0_2.length c0_2)] 24 (0, 0))) ∧ Aside0 (Below w.heap.size w wc))
         case first =>
          have H := HC16.out
          clear HC16
          by_cases c17 : (rd l0_2 x33_2) < 0
          ·rw [if_pos c17] at H
           have c17b0 : decide ((rd l0_2 x33_2) < 0) = true := decide_eq_true c17
           clear c17
           (first | rw [c17b0] | (simp only [i64_w, i32_w]; rw [c17b0]) | skip)
           have H' := Aside0.mk H
           clear H
           go_wp2
           go_meet
           case rel => exact ⟨_, (true), tS_, H', ⟨by have := HJ1.out; have := HK2.out; first | omega | exact Nat.le_refl _⟩, ⟨dB_ BK177⟩, ⟨dL1_ HB GE177⟩⟩
          ·rw [if_neg c17] at H
           have c17b0 : decide ((rd l0_2 x33_2) < 0) = false := decide_eq_false c17
           clear c17
           (first | rw [c17b0] | (simp only [i64_w, i32_w]; rw [c17b0]) | skip)
           have H' := Aside0.mk H
           clear H
           go_wp2
           go_meet
           case rel => exact ⟨_, (decide ((rd l0_2 x33_2) > 15)), tS_, H', ⟨by have := HJ1.out; have := HK2.out; first | omega | exact Nat.le_refl _⟩, ⟨dB_ BK177⟩, ⟨dL1_ HB GE177⟩⟩
         case rest =>
          clear HC16
          try clear c11
          try clear c13
          try clear c13b0
          try clear c14
          try clear c14b0
          try clear c15
          try clear c15b0
          try clear c17
          try clear hcz12_0
          try clear hcz12_1
          try clear hcz12_2
          try clear hfz12_0
          try clear hfz12_1
          try clear hfz12_2
          try clear hx180_0
          try clear p180
          try clear q180
          obtain ⟨kq, x42_15, rfl, HA, HJ15, BK177, HB⟩ := hcut
          cases kq with
          | zero => exact absurd HA.out (by simp [hinterlandref02_Validate.j2])
          | succ kj15 =>
           have H := HA.out
           clear HA
           simp only [hinterlandref02_Validate.j2] at H
           by_cases c18 : x42_15 = true
           ·subst c18
            have H1 : (some 1) = some r := by rw [if_pos rfl] at H; exact H
            clear H
            have H := H1
            clear H1
            obtain rfl := Option.some.inj H
            go_wp2
            go_ret
            exact ⟨tE_, dL1_ HB GE177⟩
           ·replace c18 := Bool.eq_false_iff.mpr c18
            subst c18
            have H1 : (hinterlandref02_Validate.l0 kj15 l0_2 (l0_2.length : Int) (wrap64 (x33_2 + 1)) a0_0 a0_1 l0_2) = some r := by rw [if_neg (show ¬ (false = true) by decide)] at H; exact H
            clear H
            have H := H1
            clear H1
            have H' := Aside0.mk H
            clear H
            go_wp2
            go_roundg kj15
            case measure => have := HJ1.out; have := HK2.out; have := HJ15.out; omega
            case rel => exact ⟨(wrap64 (x33_2 + 1)), tS_, H', ⟨by have := HJ1.out; have := HK2.out; have := HJ15.out; omega⟩, ⟨dB_ BK177⟩, ⟨dL1_ HB GE177⟩⟩
        ·rw [if_neg c15] at H
         exact absurd H (by simp)
       ·rw [if_neg c14] at H
        exact absurd H (by simp)
      ·rw [if_neg c13] at H
       have c13b0 : decide (x33_2 < (l0_2.length : Int)) = false := decide_eq_false c13
       clear c13
       have H' := Aside0.mk H
       clear H
       obtain ⟨hcz19_0, hcz19_1, hcz19_2, hfz19_0, hfz19_1, hfz19_2⟩ := cs3_ BK177.out
       go_wp2
       go_loopg [47] k2 (fun kq v47 w' => ∃ (x47_3 : Int), v47 = .int .i64 x47_3 ∧ Aside0 (hinterlandref02_Validate.l1 kq l0_2 (l0_2.length : Int) x47_3 a0_0 a0_1 l0_2 = some r) ∧ Aside0 (kq ≤ k2) ∧ Aside0 (w'.heap[gb177]? = some (.cells #[.int .i64 a0_0, .int .i64 a0_1, (.slice A0_2 l0_2.length c0_2)] 24 (0, 0))) ∧ Aside0 (Below w.heap.size w w'))
       case atStart => exact ⟨(0), tS_, H', ⟨Nat.le_refl _⟩, ⟨dB_ BK177⟩, ⟨dL1_ HB GE177⟩⟩
       case round =>
        clear H'
        try clear c11
        try clear c13
        try clear c13b0
        try clear c14
        try clear c15
        try clear c17
        try clear hcz12_0
        try clear hcz12_1
        try clear hcz12_2
        try clear hcz19_0
        try clear hcz19_1
        try clear hcz19_2
        try clear hfz12_0
        try clear hfz12_1
        try clear hfz12_2
        try clear hfz19_0
        try clear hfz19_1
        try clear hfz19_2
        obtain ⟨x47_3, rfl, HA, HK3, BK177, HB⟩ := hrel
        cases gk with
        | zero => exact absurd HA.out (by simp [hinterlandref02_Validate.l1])
        | succ k3 =>
         have H := HA.out
         clear HA
         simp only [hinterlandref02_Validate.l1] at H
         by_cases c20 : x47_3 < (l0_2.length : Int)
         ·rw [if_pos c20] at H
          have c20b0 : decide (x47_3 < (l0_2.length : Int)) = true := decide_eq_true c20
          clear c20
          by_cases c21 : 0 ≤ x47_3
          ·rw [if_pos c21] at H
           have c21b0 : decide (0 ≤ x47_3) = true := decide_eq_true c21
           clear c21
           by_cases c22 : x47_3 < (l0_2.length : Int)
           ·rw [if_pos c22] at H
            have c22b0 : decide (x47_3 < (l0_2.length : Int)) = true := decide_eq_true c22
            clear c22
            have HC23 := Aside0.mk H
            clear H
            have p181 : 0 ≤ (x47_3 : Int) := of_decide_eq_true tW_
            have q181 : x47_3 < (l0_2.length : Int) := of_decide_eq_true tW_
            obtain ⟨ad181, e181, hx181_0⟩ := Kd.at_int HR0_2.out x47_3 p181 q181
            cases e181
            replace hx181_0 := bc_ HB hx181_0
            replace p181 := eq_true p181
            replace q181 := eq_true q181
            go_upto_region 12 with (fail)
            go_cut [88] (fun v88 wc => ∃ (kq : Nat) (x88_22 : Bool), v88 = .bool x88_22 ∧ Aside0 (hinterlandref02_Validate.j4 kq l0_2 (l0_2.length : Int) x47_3 x88_22 a0_0 a0_1 l0_2 = some r) ∧ Aside0 (kq ≤ k3) ∧ Aside0 (wc.heap[gb177]? = some (.cells #[.int .i64 a0_0, .int .i64 a0_1, (.slice (some ad181) l0_2.length c0_2)] 24 (0, 0))) ∧ Aside0 (Below w.heap.size w wc))
            case first =>
             have H := HC23.out
             clear HC23
             by_cases c24 : (wrap64 (a0_0 + 1)) = 0
             ·rw [if_pos c24] at H
              exact absurd H (by simp)
             ·rw [if_neg c24] at H
              have c24b0 : ((wrap64 (a0_0 + 1)) == 0) = false := beq_eq_false_iff_ne.mpr c24
              have c24b1 : ((wrap64 (a0_0 + 1)) != 0) = true := bne_iff_ne.mpr c24
              (first | rw [c24b0] | (simp only [i64_w, i32_w]; rw [c24b0]) | skip)
              by_cases c25 : (Int.tmod x47_3 (wrap64 (a0_0 + 1))) > 0
              ·rw [if_pos c25] at H
               have c25b0 : decide (0 < (Int.tmod x47_3 (wrap64 (a0_0 + 1)))) = true := decide_eq_true c25
               clear c25
               obtain ⟨ji26, hji26⟩ : ∃ j_ : Int, (wrap64 (x47_3 - 1)) = j_ := ⟨_, rfl⟩
               replace H : (if 0 ≤ (ji26) then (if (ji26) < (l0_2.length : Int) then ((hinterlandref02_Apart.f (rd l0_2 x47_3) (rd l0_2 (ji26))).bind fun t183 => (if t183 > 1 then (hinterlandref02_Validate.j4 k3 l0_2 (l0_2.length : Int) x47_3 true a0_0 a0_1 l0_2) else (if x47_3 > a0_0 then (if 0 ≤ (wrap64 ((wrap64 (x47_3 - a0_0)) - 1)) then (if (wrap64 ((wrap64 (x47_3 - a0_0)) - 1)) < (l0_2.length : Int) then ((hinterlandref02_Apart.f (rd l0_2 x47_3) (rd l0_2 (wrap64 ((wrap64 (x47_3 - a0_0)) - 1)))).bind fun t185 => (hinterlandref02_Validate.j4 k3 l0_2 (l0_2.length : Int) x47_3 (decide (t185 > 1)) a0_0 a0_1 l0_2)) else (none)) else (none)) else (hinterlandref02_Validate.j4 k3 l0_2 (l0_2.length : Int) x47_3 false a0_0 a0_1 l0_2)))) else (none)) else (none)) = some r := by first | (rw [hji26] at H; exact H) | (simp only [hji26] at H ⊢; exact H)
               have hji26w : (IntKind.i64.wrap (x47_3 - 1)) = ji26 := (i64_w _).trans hji26
               by_cases c27 : 0 ≤ (ji26)
               ·rw [if_pos c27] at H
                have c27b0 : decide (0 ≤ (ji26)) = true := decide_eq_true c27
                clear c27
                by_cases c28 : (ji26) < (l0_2.length : Int)
                ·rw [if_pos c28] at H
                 have c28b0 : decide ((ji26) < (l0_2.length : Int)) = true := decide_eq_true c28
                 clear c28
                 replace H := Option.bind_eq_some_iff.mp H
                 obtain ⟨t183, A290, H⟩ := H
                 replace H : (if t183 > 1 then (hinterlandref02_Validate.j4 k3 l0_2 (l0_2.length : Int) x47_3 true a0_0 a0_1 l0_2) else (if x47_3 > a0_0 then (if 0 ≤ (wrap64 ((wrap64 (x47_3 - a0_0)) - 1)) then (if (wrap64 ((wrap64 (x47_3 - a0_0)) - 1)) < (l0_2.length : Int) then ((hinterlandref02_Apart.f (rd l0_2 x47_3) (rd l0_2 (wrap64 ((wrap64 (x47_3 - a0_0)) - 1)))).bind fun t185 => (hinterlandref02_Validate.j4 k3 l0_2 (l0_2.length : Int) x47_3 (decide (t185 > 1)) a0_0 a0_1 l0_2)) else (none)) else (none)) else (hinterlandref02_Validate.j4 k3 l0_2 (l0_2.length : Int) x47_3 false a0_0 a0_1 l0_2))) = some r := H
                 have A29 := Aside0.mk A290
                 clear A290
                 by_cases c30 : t183 > 1
                 ·rw [if_pos c30] at H
                  have c30b0 : decide (1 < t183) = true := decide_eq_true c30
                  clear c30
                  have H' := Aside0.mk H
                  clear H
                  obtain ⟨hcz31_0, hcz31_1, hcz31_2, hfz31_0, hfz31_1, hfz31_2⟩ := cs3_ BK177.out
                  have p182 : 0 ≤ ((ji26) : Int) := of_decide_eq_true tW_
                  have q182 : (ji26) < (l0_2.length : Int) := of_decide_eq_true tW_
                  obtain ⟨ad182, e182, hx182_0⟩ := Kd.at_int HR0_2.out (ji26) p182 q182
                  obtain rfl : ad181 = ad182 := (by injection e182)
                  replace hx182_0 := bc_ HB hx182_0
                  replace p182 := eq_true p182
                  replace q182 := eq_true q182
                  go_wp2_with (first | (go_at_call 44; (with_reducible refine (hinterlandref02_Apart.calls (rd l0_2 x47_3) (rd l0_2 (ji26)) t183 _ A29.out).mono ?_); rintro e w' ⟨rfl, ⟨nd, rfl⟩⟩))
                  go_meet
                  case rel => exact ⟨_, (true), tS_, H', ⟨by have := HJ1.out; have := HK2.out; have := HK3.out; first | omega | exact Nat.le_refl _⟩, ⟨dB_ BK177⟩, ⟨dL1_ HB GE177⟩⟩
                 ·rw [if_neg c30] at H
                  have c30b0 : decide (1 < t183) = false := decide_eq_false c30
                  clear c30
                  by_cases c32 : x47_3 > a0_0
                  ·rw [if_pos c32] at H
                   have c32b0 : decide (a0_0 < x47_3) = true := decide_eq_true c32
                   clear c32
                   obtain ⟨ji33, hji33⟩ : ∃ j_ : Int, (wrap64 ((wrap64 (x47_3 - a0_0)) - 1)) = j_ := ⟨_, rfl⟩
                   replace H : (if 0 ≤ (ji33) then (if (ji33) < (l0_2.length : Int) then ((hinterlandref02_Apart.f (rd l0_2 x47_3) (rd l0_2 (ji33))).bind fun t185 => (hinterlandref02_Validate.j4 k3 l0_2 (l0_2.length : Int) x47_3 (decide (t185 > 1)) a0_0 a0_1 l0_2)) else (none)) else (none)) = some r := by first | (rw [hji33] at H; exact H) | (simp only [hji33] at H ⊢; exact H)
                   (try rw [hji33] at A29)
                   have hji33w : (IntKind.i64.wrap ((wrap64 (x47_3 - a0_0)) - 1)) = ji33 := (i64_w _).trans hji33
                   by_cases c34 : 0 ≤ (ji33)
                   ·rw [if_pos c34] at H
                    have c34b0 : decide (0 ≤ (ji33)) = true := decide_eq_true c34
                    clear c34
                    by_cases c35 : (ji33) < (l0_2.length : Int)
                    ·rw [if_pos c35] at H
                     have c35b0 : decide ((ji33) < (l0_2.length : Int)) = true := decide_eq_true c35
                     clear c35
                     replace H := Option.bind_eq_some_iff.mp H
                     obtain ⟨t185, A360, H⟩ := H
                     replace H : (hinterlandref02_Validate.j4 k3 l0_2 (l0_2.length : Int) x47_3 (decide (t185 > 1)) a0_0 a0_1 l0_2) = some r := H
                     have A36 := Aside0.mk A360
                     clear A360
                     have H' := Aside0.mk H
                     clear H
                     obtain ⟨hcz37_0, hcz37_1, hcz37_2, hfz37_0, hfz37_1, hfz37_2⟩ := cs3_ BK177.out
                     have p182 : 0 ≤ ((ji26) : Int) := of_decide_eq_true tW_
                     have q182 : (ji26) < (l0_2.length : Int) := of_decide_eq_true tW_
                     obtain ⟨ad182, e182, hx182_0⟩ := Kd.at_int HR0_2.out (ji26) p182 q182
                     obtain rfl : ad181 = ad182 := (by injection e182)
                     replace hx182_0 := bc_ HB hx182_0
                     replace p182 := eq_true p182
                     replace q182 := eq_true q182
                     go_wp2_with (first | (go_at_call 44; (with_reducible refine (hinterlandref02_Apart.calls (rd l0_2 x47_3) (rd l0_2 (ji26)) t183 _ A29.out).mono ?_); rintro e w' ⟨rfl, ⟨nd, rfl⟩⟩; have p184 : 0 ≤ ((ji33) : Int) := of_decide_eq_true tW_; have q184 : (ji33) < (l0_2.length : Int) := of_decide_eq_true tW_; obtain ⟨ad184, e184, hx184_0⟩ := Kd.at_int HR0_2.out (ji33) p184 q184; obtain rfl : ad181 = ad184 := (by injection e184); replace hx184_0 := bc_ HB hx184_0; replace p184 := eq_true p184; replace q184 := eq_true q184) | (go_at_call 44; (with_reducible refine (hinterlandref02_Apart.calls (rd l0_2 x47_3) (rd l0_2 (ji33)) t185 _ A36.out).mono ?_); rintro e w' ⟨rfl, ⟨nd, rfl⟩⟩))
                     go_meet
                     case rel => exact ⟨_, (decide (t185 > 1)), tS_, H', ⟨by have := HJ1.out; have := HK2.out; have := HK3.out; first | omega | exact Nat.le_refl _⟩, ⟨dB_ BK177⟩, ⟨dL1_ HB GE177⟩⟩
                    ·rw [if_neg c35] at H
                     exact absurd H (by simp)
                   ·rw [if_neg c34] at H
                    exact absurd H (by simp)
                  ·rw [if_neg c32] at H
                   have c32b0 : decide (a0_0 < x47_3) = false := decide_eq_false c32
                   clear c32
                   have H' := Aside0.mk H
                   clear H
                   obtain ⟨hcz38_0, hcz38_1, hcz38_2, hfz38_0, hfz38_1, hfz38_2⟩ := cs3_ BK177.out
                   have p182 : 0 ≤ ((ji26) : Int) := of_decide_eq_true tW_
                   have q182 : (ji26) < (l0_2.length : Int) := of_decide_eq_true tW_
                   obtain ⟨ad182, e182, hx182_0⟩ := Kd.at_int HR0_2.out (ji26) p182 q182
                   obtain rfl : ad181 = ad182 := (by injection e182)
                   replace hx182_0 := bc_ HB hx182_0
                   replace p182 := eq_true p182
                   replace q182 := eq_true q182
                   go_wp2_with (first | (go_at_call 44; (with_reducible refine (hinterlandref02_Apart.calls (rd l0_2 x47_3) (rd l0_2 (ji26)) t183 _ A29.out).mono ?_); rintro e w' ⟨rfl, ⟨nd, rfl⟩⟩))
                   go_meet
                   case rel => exact ⟨_, (false), tS_, H', ⟨by have := HJ1.out; have := HK2.out; have := HK3.out; first | omega | exact Nat.le_refl _⟩, ⟨dB_ BK177⟩, ⟨dL1_ HB GE177⟩⟩
                ·rw [if_neg c28] at H
                 exact absurd H (by simp)
               ·rw [if_neg c27] at H
                exact absurd H (by simp)
              ·rw [if_neg c25] at H
               have c25b0 : decide (0 < (Int.tmod x47_3 (wrap64 (a0_0 + 1)))) = false := decide_eq_false c25
               clear c25
               by_cases c39 : x47_3 > a0_0
               ·rw [if_pos c39] at H
                have c39b0 : decide (a0_0 < x47_3) = true := decide_eq_true c39
                clear c39
                obtain ⟨ji40, hji40⟩ : ∃ j_ : Int, (wrap64 ((wrap64 (x47_3 - a0_0)) - 1)) = j_ := ⟨_, rfl⟩
                replace H : (if 0 ≤ (ji40) then (if (ji40) < (l0_2.length : Int) then ((hinterlandref02_Apart.f (rd l0_2 x47_3) (rd l0_2 (ji40))).bind fun t187 => (hinterlandref02_Validate.j4 k3 l0_2 (l0_2.length : Int) x47_3 (decide (t187 > 1)) a0_0 a0_1 l0_2)) else (none)) else (none)) = some r := by first | (rw [hji40] at H; exact H) | (simp only [hji40] at H ⊢; exact H)
                have hji40w : (IntKind.i64.wrap ((wrap64 (x47_3 - a0_0)) - 1)) = ji40 := (i64_w _).trans hji40
                by_cases c41 : 0 ≤ (ji40)
                ·rw [if_pos c41] at H
                 have c41b0 : decide (0 ≤ (ji40)) = true := decide_eq_true c41
                 clear c41
                 by_cases c42 : (ji40) < (l0_2.length : Int)
                 ·rw [if_pos c42] at H
                  have c42b0 : decide ((ji40) < (l0_2.length : Int)) = true := decide_eq_true c42
                  clear c42
                  replace H := Option.bind_eq_some_iff.mp H
                  obtain ⟨t187, A430, H⟩ := H
                  replace H : (hinterlandref02_Validate.j4 k3 l0_2 (l0_2.length : Int) x47_3 (decide (t187 > 1)) a0_0 a0_1 l0_2) = some r := H
                  have A43 := Aside0.mk A430
                  clear A430
                  have H' := Aside0.mk H
                  clear H
                  obtain ⟨hcz44_0, hcz44_1, hcz44_2, hfz44_0, hfz44_1, hfz44_2⟩ := cs3_ BK177.out
                  have p186 : 0 ≤ ((ji40) : Int) := of_decide_eq_true tW_
                  have q186 : (ji40) < (l0_2.length : Int) := of_decide_eq_true tW_
                  obtain ⟨ad186, e186, hx186_0⟩ := Kd.at_int HR0_2.out (ji40) p186 q186
                  obtain rfl : ad181 = ad186 := (by injection e186)
                  replace hx186_0 := bc_ HB hx186_0
                  replace p186 := eq_true p186
                  replace q186 := eq_true q186
                  go_wp2_with (first | (go_at_call 44; (with_reducible refine (hinterlandref02_Apart.calls (rd l0_2 x47_3) (rd l0_2 (ji40)) t187 _ A43.out).mono ?_); rintro e w' ⟨rfl, ⟨nd, rfl⟩⟩))
                  go_meet
                  case rel => exact ⟨_, (decide (t187 > 1)), tS_, H', ⟨by have := HJ1.out; have := HK2.out; have := HK3.out; first | omega | exact Nat.le_refl _⟩, ⟨dB_ BK177⟩, ⟨dL1_ HB GE177⟩⟩
                 ·rw [if_neg c42] at H
                  exact absurd H (by simp)
                ·rw [if_neg c41] at H
                 exact absurd H (by simp)
               ·rw [if_neg c39] at H
                have c39b0 : decide (a0_0 < x47_3) = false := decide_eq_false c39
                clear c39
                have H' := Aside0.mk H
                clear H
                obtain ⟨hcz45_0, hcz45_1, hcz45_2, hfz45_0, hfz45_1, hfz45_2⟩ := cs3_ BK177.out
                go_wp2
                go_meet
                case rel => exact ⟨_, (false), tS_, H', ⟨by have := HJ1.out; have := HK2.out; have := HK3.out; first | omega | exact Nat.le_refl _⟩, ⟨dB_ BK177⟩, ⟨dL1_ HB GE177⟩⟩
            case rest =>
             clear HC23
             try clear c11
             try clear c13
             try clear c13b0
             try clear c14
             try clear c15
             try clear c17
             try clear c20
             try clear c20b0
             try clear c21
             try clear c21b0
             try clear c22
             try clear c22b0
             try clear c24
             try clear c25
             try clear c27
             try clear c28
             try clear c30
             try clear c32
             try clear c34
             try clear c35
             try clear c39
             try clear c41
             try clear c42
             try clear hcz12_0
             try clear hcz12_1
             try clear hcz12_2
             try clear hcz19_0
             try clear hcz19_1
             try clear hcz19_2
             try clear hfz12_0
             try clear hfz12_1
             try clear hfz12_2
             try clear hfz19_0
             try clear hfz19_1
             try clear hfz19_2
             try clear hx181_0
             try clear p181
             try clear q181
             obtain ⟨kq, x88_22, rfl, HA, HJ22, BK177, HB⟩ := hcut
             cases kq with
             | zero => exact absurd HA.out (by simp [hinterlandref02_Validate.j4])
             | succ kj22 =>
              have H := HA.out
              clear HA
              simp only [hinterlandref02_Validate.j4] at H
              by_cases c46 : x88_22 = true
              ·subst c46
               have H1 : (some 5) = some r := by rw [if_pos rfl] at H; exact H
               clear H
               have H := H1
               clear H1
               obtain rfl := Option.some.inj H
               go_wp2
               go_ret
               exact ⟨tE_, dL1_ HB GE177⟩
              ·replace c46 := Bool.eq_false_iff.mpr c46
               subst c46
               have H1 : (hinterlandref02_Validate.l1 kj22 l0_2 (l0_2.length : Int) (wrap64 (x47_3 + 1)) a0_0 a0_1 l0_2) = some r := by rw [if_neg (show ¬ (false = true) by decide)] at H; exact H
               clear H
               have H := H1
               clear H1
               have H' := Aside0.mk H
               clear H
               go_wp2
               go_roundg kj22
               case measure => have := HJ1.out; have := HK2.out; have := HK3.out; have := HJ22.out; omega
               case rel => exact ⟨(wrap64 (x47_3 + 1)), tS_, H', ⟨by have := HJ1.out; have := HK2.out; have := HK3.out; have := HJ22.out; omega⟩, ⟨dB_ BK177⟩, ⟨dL1_ HB GE177⟩⟩
           ·rw [if_neg c22] at H
            exact absurd H (by simp)
          ·rw [if_neg c21] at H
           exact absurd H (by simp)
         ·rw [if_neg c20] at H
          have c20b0 : decide (x47_3 < (l0_2.length : Int)) = false := decide_eq_false c20
          clear c20
          obtain rfl := Option.some.inj H
          go_wp2
          go_ret
          exact ⟨tE_, dL1_ HB GE177⟩

end Go.Proofs.Ytchflcnegpnkkaa.Q
