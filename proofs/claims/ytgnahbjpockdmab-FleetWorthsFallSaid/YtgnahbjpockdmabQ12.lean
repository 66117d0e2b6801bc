-- PRINTED by print.py out of the translation. Not trusted: Lean checks it.
import Derived.Test.YtgnahbjpockdmabPrs
import Derived.Test.YtgnahbjpockdmabQ0
import Derived.Test.YtgnahbjpockdmabQ2
namespace Go.Proofs.Ytgnahbjpockdmab.Q
open Go.RowKit Go.Proofs.YtgnahbjpockdmabPrs Go.Proofs.YtgnahbjpockdmabOwn Go.Proofs.YtgnahbjpockdmabW.PrintWords Go.Proofs.YtgnahbjpockdmabW.PrintLast Go.Proofs.YtgnahbjpockdmabW.PrintMore
attribute [local go_sem] max2_int min2_int max_two min_two max_three min_three max_four min_four   -- for this text's walks alone
set_option linter.unusedVariables false
set_option linter.unusedSimpArgs false

/-! ### fleet_Speed: function 17 -/
def fleet_Speed.j0 : Nat → Int → Int → Int → Int → Bool → Int → Int → Int → Int → Int → Int → Int → Bool → Option (Int × Int)
  | 0, _, _, _, _, _, _, _, _, _, _, _, _, _ => none
  | k + 1, x1, x2, x3, x4, x57, x184000, x184001, x184002, x184003, x184004, x184005, x184006, x184007 => if x57 = true then (some (0, 1)) else (if (mx x2 1) = 0 then (none) else (if x2 > (mn x184000 x3) then (some (mx (mn x184000 x3) (wrap64 (x2 - 10)), 0)) else (if (wrap64 ((mn (wrap64 (1000 * x184003)) (wrap64 (Int.tdiv (wrap64 (3600 * x184001)) (mx x2 1)))) - (wrap64 ((wrap64 (x184002 + x1)) * (wrap64 ((wrap64 (20 + x2)) + (wrap64 (300 * x4)))))))) > 0 then (if (wrap64 ((wrap64 (x184002 + x1)) * 10000)) = 0 then (none) else (some (mn (wrap64 (x2 + (mx (wrap64 (Int.tdiv (wrap64 ((wrap64 ((mn (wrap64 (1000 * x184003)) (wrap64 (Int.tdiv (wrap64 (3600 * x184001)) (mx x2 1)))) - (wrap64 ((wrap64 (x184002 + x1)) * (wrap64 ((wrap64 (20 + x2)) + (wrap64 (300 * x4)))))))) * 36)) (wrap64 ((wrap64 (x184002 + x1)) * 10000)))) 1))) (mn x184000 x3), 0))) else (if (wrap64 ((mn (wrap64 (1000 * x184003)) (wrap64 (Int.tdiv (wrap64 (3600 * x184001)) (mx x2 1)))) - (wrap64 ((wrap64 (x184002 + x1)) * (wrap64 ((wrap64 (20 + x2)) + (wrap64 (300 * x4)))))))) < 0 then (if (wrap64 ((wrap64 (x184002 + x1)) * 10000)) = 0 then (none) else (some (mx (wrap64 (x2 - (wrap64 (Int.tdiv (wrap64 ((wrap64 (-(wrap64 ((mn (wrap64 (1000 * x184003)) (wrap64 (Int.tdiv (wrap64 (3600 * x184001)) (mx x2 1)))) - (wrap64 ((wrap64 (x184002 + x1)) * (wrap64 ((wrap64 (20 + x2)) + (wrap64 (300 * x4)))))))))) * 36)) (wrap64 ((wrap64 (x184002 + x1)) * 10000)))))) 0, 0))) else (some (x2, 0))))))
def fleet_Speed.f (k : Nat) (a0_0 : Int) (a0_1 : Int) (a0_2 : Int) (a0_3 : Int) (a0_4 : Int) (a0_5 : Int) (a0_6 : Int) (a0_7 : Bool) (a1 : Int) (a2 : Int) (a3 : Int) (a4 : Int) : Option (Int × Int) := (fleet_within.f k 0 1000000000 (([a0_0, a0_1, a0_2, a0_3, a0_4, a0_5, a0_6] : List Int))).bind fun t187 => (if t187 = true then (if a0_2 < 1 then (fleet_Speed.j0 k a1 a2 a3 a4 true a0_0 a0_1 a0_2 a0_3 a0_4 a0_5 a0_6 a0_7) else ((fleet_within.f k 0 1000000 (([a1] : List Int))).bind fun t191 => (if t191 = true then ((fleet_within.f k 0 600 (([a2, a3] : List Int))).bind fun t195 => (if t195 = true then ((fleet_within.f k (-1) 1 (([a4] : List Int))).bind fun t199 => (fleet_Speed.j0 k a1 a2 a3 a4 (!t199) a0_0 a0_1 a0_2 a0_3 a0_4 a0_5 a0_6 a0_7)) else (fleet_Speed.j0 k a1 a2 a3 a4 true a0_0 a0_1 a0_2 a0_3 a0_4 a0_5 a0_6 a0_7))) else (fleet_Speed.j0 k a1 a2 a3 a4 true a0_0 a0_1 a0_2 a0_3 a0_4 a0_5 a0_6 a0_7)))) else (fleet_Speed.j0 k a1 a2 a3 a4 true a0_0 a0_1 a0_2 a0_3 a0_4 a0_5 a0_6 a0_7))
theorem fleet_Speed.mono_l : ∀ k, (∀ y0 y1 y2 y3 y4 y5 y6 y7 y8 y9 y10 y11 y12, LeO (fleet_Speed.j0 k y0 y1 y2 y3 y4 y5 y6 y7 y8 y9 y10 y11 y12) (fleet_Speed.j0 (k + 1) y0 y1 y2 y3 y4 y5 y6 y7 y8 y9 y10 y11 y12))
  | 0 => fun _ _ _ _ _ _ _ _ _ _ _ _ _ r h => by simp [fleet_Speed.j0] at h
  | k + 1 => by
    have ih0 := fleet_Speed.mono_l k
    · intro y0 y1 y2 y3 y4 y5 y6 y7 y8 y9 y10 y11 y12
      unfold fleet_Speed.j0
      repeat' first
      | (with_reducible first | exact ih0 _ _ _ _ _ _ _ _ _ _ _ _ _ | exact fleet_within.mono _ _ _ _ | exact LeO.refl _ | exact LeO.none _ | refine LeO.ite ?_ ?_ | refine LeO.bind ?_ (fun _ => ?_))
      | exact ih0 _ _ _ _ _ _ _ _ _ _ _ _ _
      | exact fleet_within.mono _ _ _ _
      | exact LeO.none _
      | refine LeO.ite ?_ ?_
      | refine LeO.bind ?_ (fun _ => ?_)
theorem fleet_Speed.mono : ∀ a0 a1 a2 a3 a4 a5 a6 a7 a8 a9 a10 a11 k, LeO (fleet_Speed.f k a0 a1 a2 a3 a4 a5 a6 a7 a8 a9 a10 a11) (fleet_Speed.f (k + 1) a0 a1 a2 a3 a4 a5 a6 a7 a8 a9 a10 a11) := by
  intro a0 a1 a2 a3 a4 a5 a6 a7 a8 a9 a10 a11 k
  have ih0 := fleet_Speed.mono_l k
  unfold fleet_Speed.f
  repeat' first
      | (with_reducible first | exact ih0 _ _ _ _ _ _ _ _ _ _ _ _ _ | exact fleet_within.mono _ _ _ _ | exact LeO.refl _ | exact LeO.none _ | refine LeO.ite ?_ ?_ | refine LeO.bind ?_ (fun _ => ?_))
      | exact ih0 _ _ _ _ _ _ _ _ _ _ _ _ _
      | exact fleet_within.mono _ _ _ _
      | exact LeO.none _
      | refine LeO.ite ?_ ?_
      | refine LeO.bind ?_ (fun _ => ?_)
set_option maxHeartbeats 8000000 in
set_option maxRecDepth 100000 in
theorem fleet_Speed.calls (k : Nat) (a0_0 : Int) (a0_1 : Int) (a0_2 : Int) (a0_3 : Int) (a0_4 : Int) (a0_5 : Int) (a0_6 : Int) (a0_7 : Bool) (a1 : Int) (a2 : Int) (a3 : Int) (a4 : Int) (r1 : Int) (r2 : Int) (w : World) (h : fleet_Speed.f k a0_0 a0_1 a0_2 a0_3 a0_4 a0_5 a0_6 a0_7 a1 a2 a3 a4 = some (r1, r2)) :
    Calls Try.prog 17 #[.agg #[.int .i64 a0_0, .int .i64 a0_1, .int .i64 a0_2, .int .i64 a0_3, .int .i64 a0_4, .int .i64 a0_5, .int .i64 a0_6, .bool a0_7], .int .i64 a1, .int .i64 a2, .int .i64 a3, .int .i64 a4] w fun e w' => e = .returned (.tuple #[.int .i64 r1, .int .i64 r2]) ∧ Below w.heap.size w w' := by
 have hu42 := Try.underlying42
 have HB := Aside0.mk (Below.refl w.heap.size w)
 have H : ((fleet_within.f k 0 1000000000 (([a0_0, a0_1, a0_2, a0_3, a0_4, a0_5, a0_6] : List Int))).bind fun t187 => (if t187 = true then (if a0_2 < 1 then (fleet_Speed.j0 k a1 a2 a3 a4 true a0_0 a0_1 a0_2 a0_3 a0_4 a0_5 a0_6 a0_7) else ((fleet_within.f k 0 1000000 (([a1] : List Int))).bind fun t191 => (if t191 = true then ((fleet_within.f k 0 600 (([a2, a3] : List Int))).bind fun t195 => (if t195 = true then ((fleet_within.f k (-1) 1 (([a4] : List Int))).bind fun t199 => (fleet_Speed.j0 k a1 a2 a3 a4 (!t199) a0_0 a0_1 a0_2 a0_3 a0_4 a0_5 a0_6 a0_7)) else (fleet_Speed.j0 k a1 a2 a3 a4 true a0_0 a0_1 a0_2 a0_3 a0_4 a0_5 a0_6 a0_7))) else (fleet_Speed.j0 k a1 a2 a3 a4 true a0_0 a0_1 a0_2 a0_3 a0_4 a0_5 a0_6 a0_7)))) else (fleet_Speed.j0 k a1 a2 a3 a4 true a0_0 a0_1 a0_2 a0_3 a0_4 a0_5 a0_6 a0_7))) = some (r1, r2) := h
 clear h
 have HC6 := Aside0.mk H
 clear H
 go_enter Try.func17, Try.ntmps17
 go_upto_region 1 with (first | ((with_reducible refine gate_dst (N := 5) rfl ?_); (try (refine gate_guard (by rfl) ?_; dsimp only)); refine box_event ?hg (N := 5) ?hd (cs := #[.int .i64 a0_0, .int .i64 a0_1, .int .i64 a0_2, .int .i64 a0_3, .int .i64 a0_4, .int .i64 a0_5, .int .i64 a0_6, .bool a0_7]) (t := 42) ?hr ?_; (case hd => rfl); (case hg => rfl); (case hr => first | (go_simp; done) | (go_simp; rfl)); intro gb183 hg w7 hbox hb; have BK183 := Aside0.mk (hbox); have GW183 := Aside0.mk ((dS_ hg (dL_ HB) : w.heap.size ≤ gb183)); have GE183 := Aside0.mk ((dS_ hg (dL_ HB) : w.heap.size ≤ gb183)); replace HB := Aside0.mk (below_step (dL_ HB) hb); clear hb hbox hg))
 repeat (go_quiet (first | ((with_reducible refine gate_dst (N := 5) rfl ?_); (try (refine gate_guard (by rfl) ?_; dsimp only)); refine box_event ?hg (N := 5) ?hd (cs := #[.int .i64 a0_0, .int .i64 a0_1, .int .i64 a0_2, .int .i64 a0_3, .int .i64 a0_4, .int .i64 a0_5, .int .i64 a0_6, .bool a0_7]) (t := 42) ?hr ?_; (case hd => rfl); (case hg => rfl); (case hr => first | (go_simp; done) | (go_simp; rfl)); intro gb183 hg w7 hbox hb; have BK183 := Aside0.mk (hbox); have GW183 := Aside0.mk ((dS_ hg (dL_ HB) : w.heap.size ≤ gb183)); have GE183 := Aside0.mk ((dS_ hg (dL_ HB) : w.heap.size ≤ gb183)); replace HB := Aside0.mk (below_step (dL_ HB) hb); clear hb hbox hg)); go_upto_region 1 with (first | ((with_reducible refine gate_dst (N := 5) rfl ?_); (try (refine gate_guard (by rfl) ?_; dsimp only)); refine box_event ?hg (N := 5) ?hd (cs := #[.int .i64 a0_0, .int .i64 a0_1, .int .i64 a0_2, .int .i64 a0_3, .int .i64 a0_4, .int .i64 a0_5, .int .i64 a0_6, .bool a0_7]) (t := 42) ?hr ?_; (case hd => rfl); (case hg => rfl); (case hr => first | (go_simp; done) | (go_simp; rfl)); intro gb183 hg w7 hbox hb; have BK183 := Aside0.mk (hbox); have GW183 := Aside0.mk ((dS_ hg (dL_ HB) : w.heap.size ≤ gb183)); have GE183 := Aside0.mk ((dS_ hg (dL_ HB) : w.heap.size ≤ gb183)); replace HB := Aside0.mk (below_step (dL_ HB) hb); clear hb hbox hg)))
 (try simp only [Act.put, List.setIfInBounds_toArray, List.set_cons_zero, List.set_cons_succ])
 go_cut [57] (fun v57 wc => ∃ (kq : Nat) (x57_5 : Bool), v57 = .bool x57_5 ∧ Aside0 (fleet_Speed.j0 kq a1 a2 a3 a4 x57_5 a0_0 a0_1 a0_2 a0_3 a0_4 a0_5 a0_6 a0_7 = some (r1, r2)) ∧ Aside0 (kq ≤ k) ∧ Aside0 (wc.heap[gb183]? = some (.cells #[.int .i64 a0_0, .int .i64 a0_1, .int .i64 a0_2, .int .i64 a0_3, .int .i64 a0_4, .int .i64 a0_5, .int .i64 a0_6, .bool a0_7] 42 (0, 0))) ∧ Aside0 (Below w.heap.size w wc))
 case first =>
  have H := HC6.out
  clear HC6
  obtain ⟨y184, hy184⟩ : ∃ y_ : List Int, y_ = (([a0_0, a0_1, a0_2, a0_3, a0_4, a0_5, a0_6] : List Int)) := ⟨_, rfl⟩
  replace H : ((fleet_within.f k 0 1000000000 y184).bind fun t187 => (if t187 = true then (if a0_2 < 1 then (fleet_Speed.j0 k a1 a2 a3 a4 true a0_0 a0_1 a0_2 a0_3 a0_4 a0_5 a0_6 a0_7) else ((fleet_within.f k 0 1000000 (([a1] : List Int))).bind fun t191 => (if t191 = true then ((fleet_within.f k 0 600 (([a2, a3] : List Int))).bind fun t195 => (if t195 = true then ((fleet_within.f k (-1) 1 (([a4] : List Int))).bind fun t199 => (fleet_Speed.j0 k a1 a2 a3 a4 (!t199) a0_0 a0_1 a0_2 a0_3 a0_4 a0_5 a0_6 a0_7)) else (fleet_Speed.j0 k a1 a2 a3 a4 true a0_0 a0_1 a0_2 a0_3 a0_4 a0_5 a0_6 a0_7))) else (fleet_Speed.j0 k a1 a2 a3 a4 true a0_0 a0_1 a0_2 a0_3 a0_4 a0_5 a0_6 a0_7)))) else (fleet_Speed.j0 k a1 a2 a3 a4 true a0_0 a0_1 a0_2 a0_3 a0_4 a0_5 a0_6 a0_7))) = some (r1, r2) := by first | (rw [hy184]; with_reducible exact H) | (have H2_ := (Option.bind_some _ _).symm.trans H; rw [hy184]; with_reducible exact H2_) | (have H2_ := (Option.bind_some _ _).symm.trans H; with_reducible exact H2_) | with_reducible exact H | (rw [hy184]; exact H) | exact H
  have Ny184 := Aside0.mk hy184
  clear hy184
  replace H := Option.bind_eq_some_iff.mp H
  obtain ⟨t187, A80, H⟩ := H
  replace H : (if t187 = true then (if a0_2 < 1 then (fleet_Speed.j0 k a1 a2 a3 a4 true a0_0 a0_1 a0_2 a0_3 a0_4 a0_5 a0_6 a0_7) else ((fleet_within.f k 0 1000000 (([a1] : List Int))).bind fun t191 => (if t191 = true then ((fleet_within.f k 0 600 (([a2, a3] : List Int))).bind fun t195 => (if t195 = true then ((fleet_within.f k (-1) 1 (([a4] : List Int))).bind fun t199 => (fleet_Speed.j0 k a1 a2 a3 a4 (!t199) a0_0 a0_1 a0_2 a0_3 a0_4 a0_5 a0_6 a0_7)) else (fleet_Speed.j0 k a1 a2 a3 a4 true a0_0 a0_1 a0_2 a0_3 a0_4 a0_5 a0_6 a0_7))) else (fleet_Speed.j0 k a1 a2 a3 a4 true a0_0 a0_1 a0_2 a0_3 a0_4 a0_5 a0_6 a0_7)))) else (fleet_Speed.j0 k a1 a2 a3 a4 true a0_0 a0_1 a0_2 a0_3 a0_4 a0_5 a0_6 a0_7)) = some (r1, r2) := H
  have A8 := Aside0.mk A80
  clear A80
  by_cases c9 : t187 = true
  ·subst c9
   have H1 : (if a0_2 < 1 then (fleet_Speed.j0 k a1 a2 a3 a4 true a0_0 a0_1 a0_2 a0_3 a0_4 a0_5 a0_6 a0_7) else ((fleet_within.f k 0 1000000 (([a1] : List Int))).bind fun t191 => (if t191 = true then ((fleet_within.f k 0 600 (([a2, a3] : List Int))).bind fun t195 => (if t195 = true then ((fleet_within.f k (-1) 1 (([a4] : List Int))).bind fun t199 => (fleet_Speed.j0 k a1 a2 a3 a4 (!t199) a0_0 a0_1 a0_2 a0_3 a0_4 a0_5 a0_6 a0_7)) else (fleet_Speed.j0 k a1 a2 a3 a4 true a0_0 a0_1 a0_2 a0_3 a0_4 a0_5 a0_6 a0_7))) else (fleet_Speed.j0 k a1 a2 a3 a4 true a0_0 a0_1 a0_2 a0_3 a0_4 a0_5 a0_6 a0_7)))) = some (r1, r2) := by rw [if_pos rfl] at H; exact H
   clear H
   have H := H1
   clear H1
   by_cases c10 : a0_2 < 1
   ·rw [if_pos c10] at H
    have c10b0 : decide (a0_2 < 1) = true := decide_eq_true c10
    clear c10
    (first | rw [c10b0] | (simp only [i64_w, i32_w]; rw [c10b0]) | skip)
    have H' := Aside0.mk H
    clear H
    obtain ⟨hcz11_0, hcz11_1, hcz11_2, hcz11_3, hcz11_4, hcz11_5, hcz11_6, hcz11_7, hfz11_0, hfz11_1, hfz11_2, hfz11_3, hfz11_4, hfz11_5, hfz11_6, hfz11_7⟩ := cs8_ BK183.out
    go_wp2_with (first | ((with_reducible refine gate_dst (N := 31) rfl ?_); (try (refine gate_guard (by rfl) ?_; dsimp only)); refine Kd.R_lit (Kd.int .i64) _ 3 ?hg (N := 31) ?hd (xs := ([a0_0, a0_1, a0_2, a0_3, a0_4, a0_5, a0_6] : List Int)) (inner := [.int .i64 a0_0, .int .i64 a0_1, .int .i64 a0_2, .int .i64 a0_3, .int .i64 a0_4, .int .i64 a0_5, .int .i64 a0_6]) (ok := fun _ => True) (okp := fun _ => True) ?hr ?hp (fun _ hk => hk) trivial (Below.refl _ _) (Nat.le_refl _) (by simp) ?_; (case hd => rfl); (case hg => rfl); (case hr => first | (go_simp; done) | (go_simp; rfl)); (case hp => exact (Reps.one (show Kd.M (Kd.int .i64) _ _ _ a0_0 [.int .i64 a0_0] from rfl) (Reps.one (show Kd.M (Kd.int .i64) _ _ _ a0_1 [.int .i64 a0_1] from rfl) (Reps.one (show Kd.M (Kd.int .i64) _ _ _ a0_2 [.int .i64 a0_2] from rfl) (Reps.one (show Kd.M (Kd.int .i64) _ _ _ a0_3 [.int .i64 a0_3] from rfl) (Reps.one (show Kd.M (Kd.int .i64) _ _ _ a0_4 [.int .i64 a0_4] from rfl) (Reps.one (show Kd.M (Kd.int .i64) _ _ _ a0_5 [.int .i64 a0_5] from rfl) (Reps.one (show Kd.M (Kd.int .i64) _ _ _ a0_6 [.int .i64 a0_6] from rfl) (Reps.none _ _))))))))); intro v185 w12 ho13 hb hg_ hnew_; clear hg_ hnew_; (first | rw [← Ny184.out] at ho13 | (simp only [Int.reduceToNat] at ho13; rw [← Ny184.out] at ho13)); have HO186 := Aside0.mk (Kd.R_lower ho13 (below_size (dL1_ HB GE183))); replace BK183 := Aside0.mk (blk_below (g := gb183) (o := .cells #[.int .i64 a0_0, .int .i64 a0_1, .int .i64 a0_2, .int .i64 a0_3, .int .i64 a0_4, .int .i64 a0_5, .int .i64 a0_6, .bool a0_7] 42 (0, 0)) (dB_ BK183) hb); replace HB := Aside0.mk (below_step (dL1_ HB GE183) hb); clear hb ho13; obtain ⟨Ao14, co14, eo14⟩ := Kd.R_slice HO186.out; subst eo14) | (go_at_call 18; (with_reducible refine (fleet_within.calls k 0 1000000000 _ _ y184 true _ ?side1 ?side2 A8.out).mono ?_); (case side1 => repeat (first | exact (Kd.R_reads' HO186.out).2.2 | (with_reducible refine Kd.C_alloc ?_ _) | (with_reducible refine Kd.C_drewN ?_ _) | (with_reducible refine Kd.C_drew ?_))); (case side2 => exact (Kd.R_reads' HO186.out).2.1); rintro e w' ⟨rfl, ⟨nd, rfl⟩⟩; (try first | exact ⟨rfl, _, World.drewN_drewN _ _ _⟩ | exact ⟨rfl, _, Eq.trans (World.drewN_drewN _ _ _) (congrArg (World.drewN _) (Nat.add_assoc _ _ _))⟩); obtain ⟨hcz15_0, hcz15_1, hcz15_2, hcz15_3, hcz15_4, hcz15_5, hcz15_6, hcz15_7, hfz15_0, hfz15_1, hfz15_2, hfz15_3, hfz15_4, hfz15_5, hfz15_6, hfz15_7⟩ := cs8_ BK183.out))
    go_meet
    case rel => exact ⟨_, (true), tS_, H', ⟨by first | omega | exact Nat.le_refl _⟩, ⟨dB_ BK183⟩, ⟨dL1_ HB GE183⟩⟩
   ·rw [if_neg c10] at H
    have c10b0 : decide (a0_2 < 1) = false := decide_eq_false c10
    clear c10
    (first | rw [c10b0] | (simp only [i64_w, i32_w]; rw [c10b0]) | skip)
    obtain ⟨y188, hy188⟩ : ∃ y_ : List Int, y_ = (([a1] : List Int)) := ⟨_, rfl⟩
    replace H : ((fleet_within.f k 0 1000000 y188).bind fun t191 => (if t191 = true then ((fleet_within.f k 0 600 (([a2, a3] : List Int))).bind fun t195 => (if t195 = true then ((fleet_within.f k (-1) 1 (([a4] : List Int))).bind fun t199 => (fleet_Speed.j0 k a1 a2 a3 a4 (!t199) a0_0 a0_1 a0_2 a0_3 a0_4 a0_5 a0_6 a0_7)) else (fleet_Speed.j0 k a1 a2 a3 a4 true a0_0 a0_1 a0_2 a0_3 a0_4 a0_5 a0_6 a0_7))) else (fleet_Speed.j0 k a1 a2 a3 a4 true a0_0 a0_1 a0_2 a0_3 a0_4 a0_5 a0_6 a0_7))) = some (r1, r2) := by first | (rw [hy188]; with_reducible exact H) | (have H2_ := (Option.bind_some _ _).symm.trans H; rw [hy188]; with_reducible exact H2_) | (have H2_ := (Option.bind_some _ _).symm.trans H; with_reducible exact H2_) | with_reducible exact H | (rw [hy188]; exact H) | exact H
    have Ny188 := Aside0.mk hy188
    clear hy188
    replace H := Option.bind_eq_some_iff.mp H
    obtain ⟨t191, A160, H⟩ := H
    replace H : (if t191 = true then ((fleet_within.f k 0 600 (([a2, a3] : List Int))).bind fun t195 => (if t195 = true then ((fleet_within.f k (-1) 1 (([a4] : List Int))).bind fun t199 => (fleet_Speed.j0 k a1 a2 a3 a4 (!t199) a0_0 a0_1 a0_2 a0_3 a0_4 a0_5 a0_6 a0_7)) else (fleet_Speed.j0 k a1 a2 a3 a4 true a0_0 a0_1 a0_2 a0_3 a0_4 a0_5 a0_6 a0_7))) else (fleet_Speed.j0 k a1 a2 a3 a4 true a0_0 a0_1 a0_2 a0_3 a0_4 a0_5 a0_6 a0_7)) = some (r1, r2) := H
    have A16 := Aside0.mk A160
    clear A160
    by_cases c17 : t191 = true
    ·subst c17
     have H1 : ((fleet_within.f k 0 600 (([a2, a3] : List Int))).bind fun t195 => (if t195 = true then ((fleet_within.f k (-1) 1 (([a4] : List Int))).bind fun t199 => (fleet_Speed.j0 k a1 a2 a3 a4 (!t199) a0_0 a0_1 a0_2 a0_3 a0_4 a0_5 a0_6 a0_7)) else (fleet_Speed.j0 k a1 a2 a3 a4 true a0_0 a0_1 a0_2 a0_3 a0_4 a0_5 a0_6 a0_7))) = some (r1, r2) := by rw [if_pos rfl] at H; exact H
     clear H
     have H := H1
     clear H1
     obtain ⟨y192, hy192⟩ : ∃ y_ : List Int, y_ = (([a2, a3] : List Int)) := ⟨_, rfl⟩
     replace H : ((fleet_within.f k 0 600 y192).bind fun t195 => (if t195 = true then ((fleet_within.f k (-1) 1 (([a4] : List Int))).bind fun t199 => (fleet_Speed.j0 k a1 a2 a3 a4 (!t199) a0_0 a0_1 a0_2 a0_3 a0_4 a0_5 a0_6 a0_7)) else (fleet_Speed.j0 k a1 a2 a3 a4 true a0_0 a0_1 a0_2 a0_3 a0_4 a0_5 a0_6 a0_7))) = some (r1, r2) := by first | (rw [hy192]; with_reducible exact H) | (have H2_ := (Option.bind_some _ _).symm.trans H; rw [hy192]; with_reducible exact H2_) | (have H2_ := (Option.bind_some _ _).symm.trans H; with_reducible exact H2_) | with_reducible exact H | (rw [hy192]; exact H) | exact H
     have Ny192 := Aside0.mk hy192
     clear hy192
     replace H := Option.bind_eq_some_iff.mp H
     obtain ⟨t195, A180, H⟩ := H
     replace H : (if t195 = true then ((fleet_within.f k (-1) 1 (([a4] : List Int))).bind fun t199 => (fleet_Speed.j0 k a1 a2 a3 a4 (!t199) a0_0 a0_1 a0_2 a0_3 a0_4 a0_5 a0_6 a0_7)) else (fleet_Speed.j0 k a1 a2 a3 a4 true a0_0 a0_1 a0_2 a0_3 a0_4 a0_5 a0_6 a0_7)) = some (r1, r2) := H
     have A18 := Aside0.mk A180
     clear A180
     by_cases c19 : t195 = true
     ·subst c19
      have H1 : ((fleet_within.f k (-1) 1 (([a4] : List Int))).bind fun t199 => (fleet_Speed.j0 k a1 a2 a3 a4 (!t199) a0_0 a0_1 a0_2 a0_3 a0_4 a0_5 a0_6 a0_7)) = some (r1, r2) := by rw [if_pos rfl] at H; exact H
      clear H
      have H := H1
      clear H1
      obtain ⟨y196, hy196⟩ : ∃ y_ : List Int, y_ = (([a4] : List Int)) := ⟨_, rfl⟩
      replace H : ((fleet_within.f k (-1) 1 y196).bind fun t199 => (fleet_Speed.j0 k a1 a2 a3 a4 (!t199) a0_0 a0_1 a0_2 a0_3 a0_4 a0_5 a0_6 a0_7)) = some (r1, r2) := by first | (rw [hy196]; with_reducible exact H) | (have H2_ := (Option.bind_some _ _).symm.trans H; rw [hy196]; with_reducible exact H2_) | (have H2_ := (Option.bind_some _ _).symm.trans H; with_reducible exact H2_) | with_reducible exact H | (rw [hy196]; exact H) | exact H
      have Ny196 := Aside0.mk hy196
      clear hy196
      replace H := Option.bind_eq_some_iff.mp H
      obtain ⟨t199, A200, H⟩ := H
      replace H : (fleet_Speed.j0 k a1 a2 a3 a4 (!t199) a0_0 a0_1 a0_2 a0_3 a0_4 a0_5 a0_6 a0_7) = some (r1, r2) := H
      have A20 := Aside0.mk A200
      clear A200
      have H' := Aside0.mk H
      clear H
      obtain ⟨hcz21_0, hcz21_1, hcz21_2, hcz21_3, hcz21_4, hcz21_5, hcz21_6, hcz21_7, hfz21_0, hfz21_1, hfz21_2, hfz21_3, hfz21_4, hfz21_5, hfz21_6, hfz21_7⟩ := cs8_ BK183.out
      go_wp2_with (first | ((with_reducible refine gate_dst (N := 31) rfl ?_); (try (refine gate_guard (by rfl) ?_; dsimp only)); refine Kd.R_lit (Kd.int .i64) _ 3 ?hg (N := 31) ?hd (xs := ([a0_0, a0_1, a0_2, a0_3, a0_4, a0_5, a0_6] : List Int)) (inner := [.int .i64 a0_0, .int .i64 a0_1, .int .i64 a0_2, .int .i64 a0_3, .int .i64 a0_4, .int .i64 a0_5, .int .i64 a0_6]) (ok := fun _ => True) (okp := fun _ => True) ?hr ?hp (fun _ hk => hk) trivial (Below.refl _ _) (Nat.le_refl _) (by simp) ?_; (case hd => rfl); (case hg => rfl); (case hr => first | (go_simp; done) | (go_simp; rfl)); (case hp => exact (Reps.one (show Kd.M (Kd.int .i64) _ _ _ a0_0 [.int .i64 a0_0] from rfl) (Reps.one (show Kd.M (Kd.int .i64) _ _ _ a0_1 [.int .i64 a0_1] from rfl) (Reps.one (show Kd.M (Kd.int .i64) _ _ _ a0_2 [.int .i64 a0_2] from rfl) (Reps.one (show Kd.M (Kd.int .i64) _ _ _ a0_3 [.int .i64 a0_3] from rfl) (Reps.one (show Kd.M (Kd.int .i64) _ _ _ a0_4 [.int .i64 a0_4] from rfl) (Reps.one (show Kd.M (Kd.int .i64) _ _ _ a0_5 [.int .i64 a0_5] from rfl) (Reps.one (show Kd.M (Kd.int .i64) _ _ _ a0_6 [.int .i64 a0_6] from rfl) (Reps.none _ _))))))))); intro v185 w22 ho23 hb hg_ hnew_; clear hg_ hnew_; (first | rw [← Ny184.out] at ho23 | (simp only [Int.reduceToNat] at ho23; rw [← Ny184.out] at ho23)); have HO186 := Aside0.mk (Kd.R_lower ho23 (below_size (dL1_ HB GE183))); replace BK183 := Aside0.mk (blk_below (g := gb183) (o := .cells #[.int .i64 a0_0, .int .i64 a0_1, .int .i64 a0_2, .int .i64 a0_3, .int .i64 a0_4, .int .i64 a0_5, .int .i64 a0_6, .bool a0_7] 42 (0, 0)) (dB_ BK183) hb); replace HB := Aside0.mk (below_step (dL1_ HB GE183) hb); clear hb ho23; obtain ⟨Ao24, co24, eo24⟩ := Kd.R_slice HO186.out; subst eo24) | (go_at_call 18; (with_reducible refine (fleet_within.calls k 0 1000000000 _ _ y184 true _ ?side1 ?side2 A8.out).mono ?_); (case side1 => repeat (first | exact (Kd.R_reads' HO186.out).2.2 | (with_reducible refine Kd.C_alloc ?_ _) | (with_reducible refine Kd.C_drewN ?_ _) | (with_reducible refine Kd.C_drew ?_))); (case side2 => exact (Kd.R_reads' HO186.out).2.1); rintro e w' ⟨rfl, ⟨nd, rfl⟩⟩; (try first | exact ⟨rfl, _, World.drewN_drewN _ _ _⟩ | exact ⟨rfl, _, Eq.trans (World.drewN_drewN _ _ _) (congrArg (World.drewN _) (Nat.add_assoc _ _ _))⟩); obtain ⟨hcz25_0, hcz25_1, hcz25_2, hcz25_3, hcz25_4, hcz25_5, hcz25_6, hcz25_7, hfz25_0, hfz25_1, hfz25_2, hfz25_3, hfz25_4, hfz25_5, hfz25_6, hfz25_7⟩ := cs8_ BK183.out) | ((with_reducible refine gate_dst (N := 41) rfl ?_); (try (refine gate_guard (by rfl) ?_; dsimp only)); refine Kd.R_lit (Kd.int .i64) _ 3 ?hg (N := 41) ?hd (xs := ([a1] : List Int)) (inner := [.int .i64 a1]) (ok := fun _ => True) (okp := fun _ => True) ?hr ?hp (fun _ hk => hk) trivial (Below.refl _ _) (Nat.le_refl _) (by simp) ?_; (case hd => rfl); (case hg => rfl); (case hr => first | (go_simp; done) | (go_simp; rfl)); (case hp => exact (Reps.one (show Kd.M (Kd.int .i64) _ _ _ a1 [.int .i64 a1] from rfl) (Reps.none _ _))); intro v189 w26 ho27 hb hg_ hnew_; clear hg_ hnew_; (first | rw [← Ny188.out] at ho27 | (simp only [Int.reduceToNat] at ho27; rw [← Ny188.out] at ho27)); have HO190 := Aside0.mk (Kd.R_lower (Kd.R_new' ho27 (Kd.R_lt (dR_ HO186))) (below_size (dL1_ HB GE183))); replace HO186 := Aside0.mk (Kd.R_elder' (dR_ HO186) (Kd.R_base ho27) hb); replace BK183 := Aside0.mk (blk_below (g := gb183) (o := .cells #[.int .i64 a0_0, .int .i64 a0_1, .int .i64 a0_2, .int .i64 a0_3, .int .i64 a0_4, .int .i64 a0_5, .int .i64 a0_6, .bool a0_7] 42 (0, 0)) (dB_ BK183) hb); replace HB := Aside0.mk (below_step (dL1_ HB GE183) hb); clear hb ho27; obtain ⟨Ao28, co28, eo28⟩ := Kd.R_slice HO190.out; subst eo28) | (go_at_call 18; (with_reducible refine (fleet_within.calls k 0 1000000 _ _ y188 true _ ?side1 ?side2 A16.out).mono ?_); (case side1 => repeat (first | exact (Kd.R_reads' HO190.out).2.2 | (with_reducible refine Kd.C_alloc ?_ _) | (with_reducible refine Kd.C_drewN ?_ _) | (with_reducible refine Kd.C_drew ?_))); (case side2 => exact (Kd.R_reads' HO190.out).2.1); rintro e w' ⟨rfl, ⟨nd, rfl⟩⟩; (try first | exact ⟨rfl, _, World.drewN_drewN _ _ _⟩ | exact ⟨rfl, _, Eq.trans (World.drewN_drewN _ _ _) (congrArg (World.drewN _) (Nat.add_assoc _ _ _))⟩)) | ((with_reducible refine gate_dst (N := 48) rfl ?_); (try (refine gate_guard (by rfl) ?_; dsimp only)); refine Kd.R_lit (Kd.int .i64) _ 3 ?hg (N := 48) ?hd (xs := ([a2, a3] : List Int)) (inner := [.int .i64 a2, .int .i64 a3]) (ok := fun _ => True) (okp := fun _ => True) ?hr ?hp (fun _ hk => hk) trivial (Below.refl _ _) (Nat.le_refl _) (by simp) ?_; (case hd => rfl); (case hg => rfl); (case hr => first | (go_simp; done) | (go_simp; rfl)); (case hp => exact (Reps.one (show Kd.M (Kd.int .i64) _ _ _ a2 [.int .i64 a2] from rfl) (Reps.one (show Kd.M (Kd.int .i64) _ _ _ a3 [.int .i64 a3] from rfl) (Reps.none _ _)))); intro v193 w29 ho30 hb hg_ hnew_; clear hg_ hnew_; (first | rw [← Ny192.out] at ho30 | (simp only [Int.reduceToNat] at ho30; rw [← Ny192.out] at ho30)); have HO194 := Aside0.mk (Kd.R_lower (Kd.R_new' (Kd.R_new' ho30 (Kd.R_lt (dR_ HO186))) (Kd.R_lt (dR_ HO190))) (below_size (dL1_ HB GE183))); replace HO186 := Aside0.mk (Kd.R_elder' (dR_ HO186) (Kd.R_base ho30) hb); replace HO190 := Aside0.mk (Kd.R_elder' (dR_ HO190) (Kd.R_base ho30) hb); replace BK183 := Aside0.mk (blk_below (g := gb183) (o := .cells #[.int .i64 a0_0, .int .i64 a0_1, .int .i64 a0_2, .int .i64 a0_3, .int .i64 a0_4, .int .i64 a0_5, .int .i64 a0_6, .bool a0_7] 42 (0, 0)) (dB_ BK183) hb); replace HB := Aside0.mk (below_step (dL1_ HB GE183) hb); clear hb ho30; obtain ⟨Ao31, co31, eo31⟩ := Kd.R_slice HO194.out; subst eo31) | (go_at_call 18; (with_reducible refine (fleet_within.calls k 0 600 _ _ y192 true _ ?side1 ?side2 A18.out).mono ?_); (case side1 => repeat (first | exact (Kd.R_reads' HO194.out).2.2 | (with_reducible refine Kd.C_alloc ?_ _) | (with_reducible refine Kd.C_drewN ?_ _) | (with_reducible refine Kd.C_drew ?_))); (case side2 => exact (Kd.R_reads' HO194.out).2.1); rintro e w' ⟨rfl, ⟨nd, rfl⟩⟩; (try first | exact ⟨rfl, _, World.drewN_drewN _ _ _⟩ | exact ⟨rfl, _, Eq.trans (World.drewN_drewN _ _ _) (congrArg (World.drewN _) (Nat.add_assoc _ _ _))⟩)) | ((with_reducible refine gate_dst (N := 54) rfl ?_); (try (refine gate_guard (by rfl) ?_; dsimp only)); refine Kd.R_lit (Kd.int .i64) _ 3 ?hg (N := 54) ?hd (xs := ([a4] : List Int)) (inner := [.int .i64 a4]) (ok := fun _ => True) (okp := fun _ => True) ?hr ?hp (fun _ hk => hk) trivial (Below.refl _ _) (Nat.le_refl _) (by simp) ?_; (case hd => rfl); (case hg => rfl); (case hr => first | (go_simp; done) | (go_simp; rfl)); (case hp => exact (Reps.one (show Kd.M (Kd.int .i64) _ _ _ a4 [.int .i64 a4] from rfl) (Reps.none _ _))); intro v197 w32 ho33 hb hg_ hnew_; clear hg_ hnew_; (first | rw [← Ny196.out] at ho33 | (simp only [Int.reduceToNat] at ho33; rw [← Ny196.out] at ho33)); have HO198 := Aside0.mk (Kd.R_lower (Kd.R_new' (Kd.R_new' (Kd.R_new' ho33 (Kd.R_lt (dR_ HO186))) (Kd.R_lt (dR_ HO190))) (Kd.R_lt (dR_ HO194))) (below_size (dL1_ HB GE183))); replace HO186 := Aside0.mk (Kd.R_elder' (dR_ HO186) (Kd.R_base ho33) hb); replace HO190 := Aside0.mk (Kd.R_elder' (dR_ HO190) (Kd.R_base ho33) hb); replace HO194 := Aside0.mk (Kd.R_elder' (dR_ HO194) (Kd.R_base ho33) hb); replace BK183 := Aside0.mk (blk_below (g := gb183) (o := .cells #[.int .i64 a0_0, .int .i64 a0_1, .int .i64 a0_2, .int .i64 a0_3, .int .i64 a0_4, .int .i64 a0_5, .int .i64 a0_6, .bool a0_7] 42 (0, 0)) (dB_ BK183) hb); replace HB := Aside0.mk (below_step (dL1_ HB GE183) hb); clear hb ho33; obtain ⟨Ao34, co34, eo34⟩ := Kd.R_slice HO198.out; subst eo34) | (go_at_call 18; (with_reducible refine (fleet_within.calls k (-1) 1 _ _ y196 t199 _ ?side1 ?side2 A20.out).mono ?_); (case side1 => repeat (first | exact (Kd.R_reads' HO198.out).2.2 | (with_reducible refine Kd.C_alloc ?_ _) | (with_reducible refine Kd.C_drewN ?_ _) | (with_reducible refine Kd.C_drew ?_))); (case side2 => exact (Kd.R_reads' HO198.out).2.1); rintro e w' ⟨rfl, ⟨nd, rfl⟩⟩; (try first | exact ⟨rfl, _, World.drewN_drewN _ _ _⟩ | exact ⟨rfl, _, Eq.trans (World.drewN_drewN _ _ _) (congrArg (World.drewN _) (Nat.add_assoc _ _ _))⟩)))
      go_meet
      case rel => exact ⟨_, (!t199), tS_, H', ⟨by first | omega | exact Nat.le_refl _⟩, ⟨dB_ BK183⟩, ⟨dL1_ HB GE183⟩⟩
     ·replace c19 := Bool.eq_false_iff.mpr c19
      subst c19
      have H1 : (fleet_Speed.j0 k a1 a2 a3 a4 true a0_0 a0_1 a0_2 a0_3 a0_4 a0_5 a0_6 a0_7) = some (r1, r2) := by rw [if_neg (show ¬ (false = true) by decide)] at H; exact H
      clear H
      have H := H1
      clear H1
      have H' := Aside0.mk H
      clear H
      obtain ⟨hcz35_0, hcz35_1, hcz35_2, hcz35_3, hcz35_4, hcz35_5, hcz35_6, hcz35_7, hfz35_0, hfz35_1, hfz35_2, hfz35_3, hfz35_4, hfz35_5, hfz35_6, hfz35_7⟩ := cs8_ BK183.out
      go_wp2_with (first | ((with_reducible refine gate_dst (N := 31) rfl ?_); (try (refine gate_guard (by rfl) ?_; dsimp only)); refine Kd.R_lit (Kd.int .i64) _ 3 ?hg (N := 31) ?hd (xs := ([a0_0, a0_1, a0_2, a0_3, a0_4, a0_5, a0_6] : List Int)) (inner := [.int .i64 a0_0, .int .i64 a0_1, .int .i64 a0_2, .int .i64 a0_3, .int .i64 a0_4, .int .i64 a0_5, .int .i64 a0_6]) (ok := fun _ => True) (okp := fun _ => True) ?hr ?hp (fun _ hk => hk) trivial (Below.refl _ _) (Nat.le_refl _) (by simp) ?_; (case hd => rfl); (case hg => rfl); (case hr => first | (go_simp; done) | (go_simp; rfl)); (case hp => exact (Reps.one (show Kd.M (Kd.int .i64) _ _ _ a0_0 [.int .i64 a0_0] from rfl) (Reps.one (show Kd.M (Kd.int .i64) _ _ _ a0_1 [.int .i64 a0_1] from rfl) (Reps.one (show Kd.M (Kd.int .i64) _ _ _ a0_2 [.int .i64 a0_2] from rfl) (Reps.one (show Kd.M (Kd.int .i64) _ _ _ a0_3 [.int .i64 a0_3] from rfl) (Reps.one (show Kd.M (Kd.int .i64) _ _ _ a0_4 [.int .i64 a0_4] from rfl) (Reps.one (show Kd.M (Kd.int .i64) _ _ _ a0_5 [.int .i64 a0_5] from rfl) (Reps.one (show Kd.M (Kd.int .i64) _ _ _ a0_6 [.int .i64 a0_6] from rfl) (Reps.none _ _))))))))); intro v185 w36 ho37 hb hg_ hnew_; clear hg_ hnew_; (first | rw [← Ny184.out] at ho37 | (simp only [Int.reduceToNat] at ho37; rw [← Ny184.out] at ho37)); have HO186 := Aside0.mk (Kd.R_lower ho37 (below_size (dL1_ HB GE183))); replace BK183 := Aside0.mk (blk_below (g := gb183) (o := .cells #[.int .i64 a0_0, .int .i64 a0_1, .int .i64 a0_2, .int .i64 a0_3, .int .i64 a0_4, .int .i64 a0_5, .int .i64 a0_6, .bool a0_7] 42 (0, 0)) (dB_ BK183) hb); replace HB := Aside0.mk (below_step (dL1_ HB GE183) hb); clear hb ho37; obtain ⟨Ao38, co38, eo38⟩ := Kd.R_slice HO186.out; subst eo38) | (go_at_call 18; (with_reducible refine (fleet_within.calls k 0 1000000000 _ _ y184 true _ ?side1 ?side2 A8.out).mono ?_); (case side1 => repeat (first | exact (Kd.R_reads' HO186.out).2.2 | (with_reducible refine Kd.C_alloc ?_ _) | (with_reducible refine Kd.C_drewN ?_ _) | (with_reducible refine Kd.C_drew ?_))); (case side2 => exact (Kd.R_reads' HO186.out).2.1); rintro e w' ⟨rfl, ⟨nd, rfl⟩⟩; (try first | exact ⟨rfl, _, World.drewN_drewN _ _ _⟩ | exact ⟨rfl, _, Eq.trans (World.drewN_drewN _ _ _) (congrArg (World.drewN _) (Nat.add_assoc _ _ _))⟩); obtain ⟨hcz39_0, hcz39_1, hcz39_2, hcz39_3, hcz39_4, hcz39_5, hcz39_6, hcz39_7, hfz39_0, hfz39_1, hfz39_2, hfz39_3, hfz39_4, hfz39_5, hfz39_6, hfz39_7⟩ := cs8_ BK183.out) | ((with_reducible refine gate_dst (N := 41) rfl ?_); (try (refine gate_guard (by rfl) ?_; dsimp only)); refine Kd.R_lit (Kd.int .i64) _ 3 ?hg (N := 41) ?hd (xs := ([a1] : List Int)) (inner := [.int .i64 a1]) (ok := fun _ => True) (okp := fun _ => True) ?hr ?hp (fun _ hk => hk) trivial (Below.refl _ _) (Nat.le_refl _) (by simp) ?_; (case hd => rfl); (case hg => rfl); (case hr => first | (go_simp; done) | (go_simp; rfl)); (case hp => exact (Reps.one (show Kd.M (Kd.int .i64) _ _ _ a1 [.int .i64 a1] from rfl) (Reps.none _ _))); intro v189 w40 ho41 hb hg_ hnew_; clear hg_ hnew_; (first | rw [← Ny188.out] at ho41 | (simp only [Int.reduceToNat] at ho41; rw [← Ny188.out] at ho41)); have HO190 := Aside0.mk (Kd.R_lower (Kd.R_new' ho41 (Kd.R_lt (dR_ HO186))) (below_size (dL1_ HB GE183))); replace HO186 := Aside0.mk (Kd.R_elder' (dR_ HO186) (Kd.R_base ho41) hb); replace BK183 := Aside0.mk (blk_below (g := gb183) (o := .cells #[.int .i64 a0_0, .int .i64 a0_1, .int .i64 a0_2, .int .i64 a0_3, .int .i64 a0_4, .int .i64 a0_5, .int .i64 a0_6, .bool a0_7] 42 (0, 0)) (dB_ BK183) hb); replace HB := Aside0.mk (below_step (dL1_ HB GE183) hb); clear hb ho41; obtain ⟨Ao42, co42, eo42⟩ := Kd.R_slice HO190.out; subst eo42) | (go_at_call 18; (with_reducible refine (fleet_within.calls k 0 1000000 _ _ y188 true _ ?side1 ?side2 A16.out).mono ?_); (case side1 => repeat (first | exact (Kd.R_reads' HO190.out).2.2 | (with_reducible refine Kd.C_alloc ?_ _) | (with_reducible refine Kd.C_drewN ?_ _) | (with_reducible refine Kd.C_drew ?_))); (case side2 => exact (Kd.R_reads' HO190.out).2.1); rintro e w' ⟨rfl, ⟨nd, rfl⟩⟩; (try first | exact ⟨rfl, _, World.drewN_drewN _ _ _⟩ | exact ⟨rfl, _, Eq.trans (World.drewN_drewN _ _ _) (congrArg (World.drewN _) (Nat.add_assoc _ _ _))⟩)) | ((with_reducible refine gate_dst (N := 48) rfl ?_); (try (refine gate_guard (by rfl) ?_; dsimp only)); refine Kd.R_lit (Kd.int .i64) _ 3 ?hg (N := 48) ?hd (xs := ([a2, a3] : List Int)) (inner := [.int .i64 a2, .int .i64 a3]) (ok := fun _ => True) (okp := fun _ => True) ?hr ?hp (fun _ hk => hk) trivial (Below.refl _ _) (Nat.le_refl _) (by simp) ?_; (case hd => rfl); (case hg => rfl); (case hr => first | (go_simp; done) | (go_simp; rfl)); (case hp => exact (Reps.one (show Kd.M (Kd.int .i64) _ _ _ a2 [.int .i64 a2] from rfl) (Reps.one (show Kd.M (Kd.int .i64) _ _ _ a3 [.int .i64 a3] from rfl) (Reps.none _ _)))); intro v193 w43 ho44 hb hg_ hnew_; clear hg_ hnew_; (first | rw [← Ny192.out] at ho44 | (simp only [Int.reduceToNat] at ho44; rw [← Ny192.out] at ho44)); have HO194 := Aside0.mk (Kd.R_lower (Kd.R_new' (Kd.R_new' ho44 (Kd.R_lt (dR_ HO186))) (Kd.R_lt (dR_ HO190))) (below_size (dL1_ HB GE183))); replace HO186 := Aside0.mk (Kd.R_elder' (dR_ HO186) (Kd.R_base ho44) hb); replace HO190 := Aside0.mk (Kd.R_elder' (dR_ HO190) (Kd.R_base ho44) hb); replace BK183 := Aside0.mk (blk_below (g := gb183) (o := .cells #[.int .i64 a0_0, .int .i64 a0_1, .int .i64 a0_2, .int .i64 a0_3, .int .i64 a0_4, .int .i64 a0_5, .int .i64 a0_6, .bool a0_7] 42 (0, 0)) (dB_ BK183) hb); replace HB := Aside0.mk (below_step (dL1_ HB GE183) hb); clear hb ho44; obtain ⟨Ao45, co45, eo45⟩ := Kd.R_slice HO194.out; subst eo45) | (go_at_call 18; (with_reducible refine (fleet_within.calls k 0 600 _ _ y192 false _ ?side1 ?side2 A18.out).mono ?_); (case side1 => repeat (first | exact (Kd.R_reads' HO194.out).2.2 | (with_reducible refine Kd.C_alloc ?_ _) | (with_reducible refine Kd.C_drewN ?_ _) | (with_reducible refine Kd.C_drew ?_))); (case side2 => exact (Kd.R_reads' HO194.out).2.1); rintro e w' ⟨rfl, ⟨nd, rfl⟩⟩; (try first | exact ⟨rfl, _, World.drewN_drewN _ _ _⟩ | exact ⟨rfl, _, Eq.trans (World.drewN_drewN _ _ _) (congrArg (World.drewN _) (Nat.add_assoc _ _ _))⟩)))
      go_meet
      case rel => exact ⟨_, (true), tS_, H', ⟨by first | omega | exact Nat.le_refl _⟩, ⟨dB_ BK183⟩, ⟨dL1_ HB GE183⟩⟩
    ·replace c17 := Bool.eq_false_iff.mpr c17
     subst c17
     have H1 : (fleet_Speed.j0 k a1 a2 a3 a4 true a0_0 a0_1 a0_2 a0_3 a0_4 a0_5 a0_6 a0_7) = some (r1, r2) := by rw [if_neg (show ¬ (false = true) by decide)] at H; exact H
     clear H
     have H := H1
     clear H1
     have H' := Aside0.mk H
     clear H
     obtain ⟨hcz46_0, hcz46_1, hcz46_2, hcz46_3, hcz46_4, hcz46_5, hcz46_6, hcz46_7, hfz46_0, hfz46_1, hfz46_2, hfz46_3, hfz46_4, hfz46_5, hfz46_6, hfz46_7⟩ := cs8_ BK183.out
     go_wp2_with (first | ((with_reducible refine gate_dst (N := 31) rfl ?_); (try (refine gate_guard (by rfl) ?_; dsimp only)); refine Kd.R_lit (Kd.int .i64) _ 3 ?hg (N := 31) ?hd (xs := ([a0_0, a0_1, a0_2, a0_3, a0_4, a0_5, a0_6] : List Int)) (inner := [.int .i64 a0_0, .int .i64 a0_1, .int .i64 a0_2, .int .i64 a0_3, .int .i64 a0_4, .int .i64 a0_5, .int .i64 a0_6]) (ok := fun _ => True) (okp := fun _ => True) ?hr ?hp (fun _ hk => hk) trivial (Below.refl _ _) (Nat.le_refl _) (by simp) ?_; (case hd => rfl); (case hg => rfl); (case hr => first | (go_simp; done) | (go_simp; rfl)); (case hp => exact (Reps.one (show Kd.M (Kd.int .i64) _ _ _ a0_0 [.int .i64 a0_0] from rfl) (Reps.one (show Kd.M (Kd.int .i64) _ _ _ a0_1 [.int .i64 a0_1] from rfl) (Reps.one (show Kd.M (Kd.int .i64) _ _ _ a0_2 [.int .i64 a0_2] from rfl) (Reps.one (show Kd.M (Kd.int .i64) _ _ _ a0_3 [.int .i64 a0_3] from rfl) (Reps.one (show Kd.M (Kd.int .i64) _ _ _ a0_4 [.int .i64 a0_4] from rfl) (Reps.one (show Kd.M (Kd.int .i64) _ _ _ a0_5 [.int .i64 a0_5] from rfl) (Reps.one (show Kd.M (Kd.int .i64) _ _ _ a0_6 [.int .i64 a0_6] from rfl) (Reps.none _ _))))))))); intro v185 w47 ho48 hb hg_ hnew_; clear hg_ hnew_; (first | rw [← Ny184.out] at ho48 | (simp only [Int.reduceToNat] at ho48; rw [← Ny184.out] at ho48)); have HO186 := Aside0.mk (Kd.R_lower ho48 (below_size (dL1_ HB GE183))); replace BK183 := Aside0.mk (blk_below (g := gb183) (o := .cells #[.int .i64 a0_0, .int .i64 a0_1, .int .i64 a0_2, .int .i64 a0_3, .int .i64 a0_4, .int .i64 a0_5, .int .i64 a0_6, .bool a0_7] 42 (0, 0)) (dB_ BK183) hb); replace HB := Aside0.mk (below_step (dL1_ HB GE183) hb); clear hb ho48; obtain ⟨Ao49, co49, eo49⟩ := Kd.R_slice HO186.out; subst eo49) | (go_at_call 18; (with_reducible refine (fleet_within.calls k 0 1000000000 _ _ y184 true _ ?side1 ?side2 A8.out).mono ?_); (case side1 => repeat (first | exact (Kd.R_reads' HO186.out).2.2 | (with_reducible refine Kd.C_alloc ?_ _) | (with_reducible refine Kd.C_drewN ?_ _) | (with_reducible refine Kd.C_drew ?_))); (case side2 => exact (Kd.R_reads' HO186.out).2.1); rintro e w' ⟨rfl, ⟨nd, rfl⟩⟩; (try first | exact ⟨rfl, _, World.drewN_drewN _ _ _⟩ | exact ⟨rfl, _, Eq.trans (World.drewN_drewN _ _ _) (congrArg (World.drewN _) (Nat.add_assoc _ _ _))⟩); obtain ⟨hcz50_0, hcz50_1, hcz50_2, hcz50_3, hcz50_4, hcz50_5, hcz50_6, hcz50_7, hfz50_0, hfz50_1, hfz50_2, hfz50_3, hfz50_4, hfz50_5, hfz50_6, hfz50_7⟩ := cs8_ BK183.out) | ((with_reducible refine gate_dst (N := 41) rfl ?_); (try (refine gate_guard (by rfl) ?_; dsimp only)); refine Kd.R_lit (Kd.int .i64) _ 3 ?hg (N := 41) ?hd (xs := ([a1] : List Int)) (inner := [.int .i64 a1]) (ok := fun _ => True) (okp := fun _ => True) ?hr ?hp (fun _ hk => hk) trivial (Below.refl _ _) (Nat.le_refl _) (by simp) ?_; (case hd => rfl); (case hg => rfl); (case hr => first | (go_simp; done) | (go_simp; rfl)); (case hp => exact (Reps.one (show Kd.M (Kd.int .i64) _ _ _ a1 [.int .i64 a1] from rfl) (Reps.none _ _))); intro v189 w51 ho52 hb hg_ hnew_; clear hg_ hnew_; (first | rw [← Ny188.out] at ho52 | (simp only [Int.reduceToNat] at ho52; rw [← Ny188.out] at ho52)); have HO190 := Aside0.mk (Kd.R_lower (Kd.R_new' ho52 (Kd.R_lt (dR_ HO186))) (below_size (dL1_ HB GE183))); replace HO186 := Aside0.mk (Kd.R_elder' (dR_ HO186) (Kd.R_base ho52) hb); replace BK183 := Aside0.mk (blk_below (g := gb183) (o := .cells #[.int .i64 a0_0, .int .i64 a0_1, .int .i64 a0_2, .int .i64 a0_3, .int .i64 a0_4, .int .i64 a0_5, .int .i64 a0_6, .bool a0_7] 42 (0, 0)) (dB_ BK183) hb); replace HB := Aside0.mk (below_step (dL1_ HB GE183) hb); clear hb ho52; obtain ⟨Ao53, co53, eo53⟩ := Kd.R_slice HO190.out; subst eo53) | (go_at_call 18; (with_reducible refine (fleet_within.calls k 0 1000000 _ _ y188 false _ ?side1 ?side2 A16.out).mono ?_); (case side1 => repeat (first | exact (Kd.R_reads' HO190.out).2.2 | (with_reducible refine Kd.C_alloc ?_ _) | (with_reducible refine Kd.C_drewN ?_ _) | (with_reducible refine Kd.C_drew ?_))); (case side2 => exact (Kd.R_reads' HO190.out).2.1); rintro e w' ⟨rfl, ⟨nd, rfl⟩⟩; (try first | exact ⟨rfl, _, World.drewN_drewN _ _ _⟩ | exact ⟨rfl, _, Eq.trans (World.drewN_drewN _ _ _) (congrArg (World.drewN _) (Nat.add_assoc _ _ _))⟩)))
     go_meet
     case rel => exact ⟨_, (true), tS_, H', ⟨by first | omega | exact Nat.le_refl _⟩, ⟨dB_ BK183⟩, ⟨dL1_ HB GE183⟩⟩
  ·replace c9 := Bool.eq_false_iff.mpr c9
   subst c9
   have H1 : (fleet_Speed.j0 k a1 a2 a3 a4 true a0_0 a0_1 a0_2 a0_3 a0_4 a0_5 a0_6 a0_7) = some (r1, r2) := by rw [if_neg (show ¬ (false = true) by decide)] at H; exact H
   clear H
   have H := H1
   clear H1
   have H' := Aside0.mk H
   clear H
   obtain ⟨hcz54_0, hcz54_1, hcz54_2, hcz54_3, hcz54_4, hcz54_5, hcz54_6, hcz54_7, hfz54_0, hfz54_1, hfz54_2, hfz54_3, hfz54_4, hfz54_5, hfz54_6, hfz54_7⟩ := cs8_ BK183.out
   go_wp2_with (first | ((with_reducible refine gate_dst (N := 31) rfl ?_); (try (refine gate_guard (by rfl) ?_; dsimp only)); refine Kd.R_lit (Kd.int .i64) _ 3 ?hg (N := 31) ?hd (xs := ([a0_0, a0_1, a0_2, a0_3, a0_4, a0_5, a0_6] : List Int)) (inner := [.int .i64 a0_0, .int .i64 a0_1, .int .i64 a0_2, .int .i64 a0_3, .int .i64 a0_4, .int .i64 a0_5, .int .i64 a0_6]) (ok := fun _ => True) (okp := fun _ => True) ?hr ?hp (fun _ hk => hk) trivial (Below.refl _ _) (Nat.le_refl _) (by simp) ?_; (case hd => rfl); (case hg => rfl); (case hr => first | (go_simp; done) | (go_simp; rfl)); (case hp => exact (Reps.one (show Kd.M (Kd.int .i64) _ _ _ a0_0 [.int .i64 a0_0] from rfl) (Reps.one (show Kd.M (Kd.int .i64) _ _ _ a0_1 [.int .i64 a0_1] from rfl) (Reps.one (show Kd.M (Kd.int .i64) _ _ _ a0_2 [.int .i64 a0_2] from rfl) (Reps.one (show Kd.M (Kd.int .i64) _ _ _ a0_3 [.int .i64 a0_3] from rfl) (Reps.one (show Kd.M (Kd.int .i64) _ _ _ a0_4 [.int .i64 a0_4] from rfl) (Reps.one (show Kd.M (Kd.int .i64) _ _ _ a0_5 [.int .i64 a0_5] from rfl) (Reps.one (show Kd.M (Kd.int .i64) _ _ _ a0_6 [.int .i64 a0_6] from rfl) (Reps.none _ _))))))))); intro v185 w55 ho56 hb hg_ hnew_; clear hg_ hnew_; (first | rw [← Ny184.out] at ho56 | (simp only [Int.reduceToNat] at ho56; rw [← Ny184.out] at ho56)); have HO186 := Aside0.mk (Kd.R_lower ho56 (below_size (dL1_ HB GE183))); replace BK183 := Aside0.mk (blk_below (g := gb183) (o := .cells #[.int .i64 a0_0, .int .i64 a0_1, .int .i64 a0_2, .int .i64 a0_3, .int .i64 a0_4, .int .i64 a0_5, .int .i64 a0_6, .bool a0_7] 42 (0, 0)) (dB_ BK183) hb); replace HB := Aside0.mk (below_step (dL1_ HB GE183) hb); clear hb ho56; obtain ⟨Ao57, co57, eo57⟩ := Kd.R_slice HO186.out; subst eo57) | (go_at_call 18; (with_reducible refine (fleet_within.calls k 0 1000000000 _ _ y184 false _ ?side1 ?side2 A8.out).mono ?_); (case side1 => repeat (first | exact (Kd.R_reads' HO186.out).2.2 | (with_reducible refine Kd.C_alloc ?_ _) | (with_reducible refine Kd.C_drewN ?_ _) | (with_reducible refine Kd.C_drew ?_))); (case side2 => exact (Kd.R_reads' HO186.out).2.1); rintro e w' ⟨rfl, ⟨nd, rfl⟩⟩; (try first | exact ⟨rfl, _, World.drewN_drewN _ _ _⟩ | exact ⟨rfl, _, Eq.trans (World.drewN_drewN _ _ _) (congrArg (World.drewN _) (Nat.add_assoc _ _ _))⟩)))
   go_meet
   case rel => exact ⟨_, (true), tS_, H', ⟨by first | omega | exact Nat.le_refl _⟩, ⟨dB_ BK183⟩, ⟨dL1_ HB GE183⟩⟩
 case rest =>
  clear HC6
  try clear c10
  obtain ⟨kq, x57_5, rfl, HA, HJ5, BK183, HB⟩ := hcut
  cases kq with
  | zero => exact absurd HA.out (by simp [fleet_Speed.j0])
  | succ kj5 =>
   have H := HA.out
   clear HA
   simp only [fleet_Speed.j0] at H
   by_cases c58 : x57_5 = true
   ·subst c58
    have H1 : (some (0, 1)) = some (r1, r2) := by rw [if_pos rfl] at H; exact H
    clear H
    have H := H1
    clear H1
    simp only [Option.some.injEq, Prod.mk.injEq] at H
    obtain ⟨rfl, rfl⟩ := H
    go_wp2
    repeat (go_quiet (fail); try go_wp2)
    go_ret2
    exact ⟨tE_, dL1_ HB GE183⟩
   ·replace c58 := Bool.eq_false_iff.mpr c58
    subst c58
    have H1 : (if (mx a2 1) = 0 then (none) else (if a2 > (mn a0_0 a3) then (some (mx (mn a0_0 a3) (wrap64 (a2 - 10)), 0)) else (if (wrap64 ((mn (wrap64 (1000 * a0_3)) (wrap64 (Int.tdiv (wrap64 (3600 * a0_1)) (mx a2 1)))) - (wrap64 ((wrap64 (a0_2 + a1)) * (wrap64 ((wrap64 (20 + a2)) + (wrap64 (300 * a4)))))))) > 0 then (if (wrap64 ((wrap64 (a0_2 + a1)) * 10000)) = 0 then (none) else (some (mn (wrap64 (a2 + (mx (wrap64 (Int.tdiv (wrap64 ((wrap64 ((mn (wrap64 (1000 * a0_3)) (wrap64 (Int.tdiv (wrap64 (3600 * a0_1)) (mx a2 1)))) - (wrap64 ((wrap64 (a0_2 + a1)) * (wrap64 ((wrap64 (20 + a2)) + (wrap64 (300 * a4)))))))) * 36)) (wrap64 ((wrap64 (a0_2 + a1)) * 10000)))) 1))) (mn a0_0 a3), 0))) else (if (wrap64 ((mn (wrap64 (1000 * a0_3)) (wrap64 (Int.tdiv (wrap64 (3600 * a0_1)) (mx a2 1)))) - (wrap64 ((wrap64 (a0_2 + a1)) * (wrap64 ((wrap64 (20 + a2)) + (wrap64 (300 * a4)))))))) < 0 then (if (wrap64 ((wrap64 (a0_2 + a1)) * 10000)) = 0 then (none) else (some (mx (wrap64 (a2 - (wrap64 (Int.tdiv (wrap64 ((wrap64 (-(wrap64 ((mn (wrap64 (1000 * a0_3)) (wrap64 (Int.tdiv (wrap64 (3600 * a0_1)) (mx a2 1)))) - (wrap64 ((wrap64 (a0_2 + a1)) * (wrap64 ((wrap64 (20 + a2)) + (wrap64 (300 * a4)))))))))) * 36)) (wrap64 ((wrap64 (a0_2 + a1)) * 10000)))))) 0, 0))) else (some (a2, 0)))))) = some (r1, r2) := by rw [if_neg (show ¬ (false = true) by decide)] at H; exact H
    clear H
    have H := H1
    clear H1
    obtain ⟨ji59, hji59⟩ : ∃ j_ : Int, (mx a2 1) = j_ := ⟨_, rfl⟩
    replace H : (if (ji59) = 0 then (none) else (if a2 > (mn a0_0 a3) then (some (mx (mn a0_0 a3) (wrap64 (a2 - 10)), 0)) else (if (wrap64 ((mn (wrap64 (1000 * a0_3)) (wrap64 (Int.tdiv (wrap64 (3600 * a0_1)) (ji59)))) - (wrap64 ((wrap64 (a0_2 + a1)) * (wrap64 ((wrap64 (20 + a2)) + (wrap64 (300 * a4)))))))) > 0 then (if (wrap64 ((wrap64 (a0_2 + a1)) * 10000)) = 0 then (none) else (some (mn (wrap64 (a2 + (mx (wrap64 (Int.tdiv (wrap64 ((wrap64 ((mn (wrap64 (1000 * a0_3)) (wrap64 (Int.tdiv (wrap64 (3600 * a0_1)) (ji59)))) - (wrap64 ((wrap64 (a0_2 + a1)) * (wrap64 ((wrap64 (20 + a2)) + (wrap64 (300 * a4)))))))) * 36)) (wrap64 ((wrap64 (a0_2 + a1)) * 10000)))) 1))) (mn a0_0 a3), 0))) else (if (wrap64 ((mn (wrap64 (1000 * a0_3)) (wrap64 (Int.tdiv (wrap64 (3600 * a0_1)) (ji59)))) - (wrap64 ((wrap64 (a0_2 + a1)) * (wrap64 ((wrap64 (20 + a2)) + (wrap64 (300 * a4)))))))) < 0 then (if (wrap64 ((wrap64 (a0_2 + a1)) * 10000)) = 0 then (none) else (some (mx (wrap64 (a2 - (wrap64 (Int.tdiv (wrap64 ((wrap64 (-(wrap64 ((mn (wrap64 (1000 * a0_3)) (wrap64 (Int.tdiv (wrap64 (3600 * a0_1)) (ji59)))) - (wrap64 ((wrap64 (a0_2 + a1)) * (wrap64 ((wrap64 (20 + a2)) + (wrap64 (300 * a4)))))))))) * 36)) (wrap64 ((wrap64 (a0_2 + a1)) * 10000)))))) 0, 0))) else (some (a2, 0)))))) = some (r1, r2) := by first | (rw [hji59] at H; exact H) | (simp only [hji59] at H ⊢; exact H)
    have hji59_ : (if a2 < 1 then 1 else a2) = ji59 := hji59
    by_cases c60 : (ji59) = 0
    ·rw [if_pos c60] at H
     exact absurd H (by simp)
    ·rw [if_neg c60] at H
     have c60b0 : ((ji59) == 0) = false := beq_eq_false_iff_ne.mpr c60
     have c60b1 : ((ji59) != 0) = true := bne_iff_ne.mpr c60
     obtain ⟨ji61, hji61⟩ : ∃ j_ : Int, (mn (wrap64 (1000 * a0_3)) (wrap64 (Int.tdiv (wrap64 (3600 * a0_1)) (ji59)))) = j_ := ⟨_, rfl⟩
     replace H : (if a2 > (mn a0_0 a3) then (some (mx (mn a0_0 a3) (wrap64 (a2 - 10)), 0)) else (if (wrap64 ((ji61) - (wrap64 ((wrap64 (a0_2 + a1)) * (wrap64 ((wrap64 (20 + a2)) + (wrap64 (300 * a4)))))))) > 0 then (if (wrap64 ((wrap64 (a0_2 + a1)) * 10000)) = 0 then (none) else (some (mn (wrap64 (a2 + (mx (wrap64 (Int.tdiv (wrap64 ((wrap64 ((ji61) - (wrap64 ((wrap64 (a0_2 + a1)) * (wrap64 ((wrap64 (20 + a2)) + (wrap64 (300 * a4)))))))) * 36)) (wrap64 ((wrap64 (a0_2 + a1)) * 10000)))) 1))) (mn a0_0 a3), 0))) else (if (wrap64 ((ji61) - (wrap64 ((wrap64 (a0_2 + a1)) * (wrap64 ((wrap64 (20 + a2)) + (wrap64 (300 * a4)))))))) < 0 then (if (wrap64 ((wrap64 (a0_2 + a1)) * 10000)) = 0 then (none) else (some (mx (wrap64 (a2 - (wrap64 (Int.tdiv (wrap64 ((wrap64 (-(wrap64 ((ji61) - (wrap64 ((wrap64 (a0_2 + a1)) * (wrap64 ((wrap64 (20 + a2)) + (wrap64 (300 * a4)))))))))) * 36)) (wrap64 ((wrap64 (a0_2 + a1)) * 10000)))))) 0, 0))) else (some (a2, 0))))) = some (r1, r2) := by first | (rw [hji61] at H; exact H) | (simp only [hji61] at H ⊢; exact H)
     have hji61_ : (if (wrap64 (Int.tdiv (wrap64 (3600 * a0_1)) (ji59))) < (wrap64 (1000 * a0_3)) then (wrap64 (Int.tdiv (wrap64 (3600 * a0_1)) (ji59))) else (wrap64 (1000 * a0_3))) = ji61 := hji61
     obtain ⟨ji62, hji62⟩ : ∃ j_ : Int, (mn a0_0 a3) = j_ := ⟨_, rfl⟩
     replace H : (if a2 > (ji62) then (some (mx (ji62) (wrap64 (a2 - 10)), 0)) else (if (wrap64 ((ji61) - (wrap64 ((wrap64 (a0_2 + a1)) * (wrap64 ((wrap64 (20 + a2)) + (wrap64 (300 * a4)))))))) > 0 then (if (wrap64 ((wrap64 (a0_2 + a1)) * 10000)) = 0 then (none) else (some (mn (wrap64 (a2 + (mx (wrap64 (Int.tdiv (wrap64 ((wrap64 ((ji61) - (wrap64 ((wrap64 (a0_2 + a1)) * (wrap64 ((wrap64 (20 + a2)) + (wrap64 (300 * a4)))))))) * 36)) (wrap64 ((wrap64 (a0_2 + a1)) * 10000)))) 1))) (ji62), 0))) else (if (wrap64 ((ji61) - (wrap64 ((wrap64 (a0_2 + a1)) * (wrap64 ((wrap64 (20 + a2)) + (wrap64 (300 * a4)))))))) < 0 then (if (wrap64 ((wrap64 (a0_2 + a1)) * 10000)) = 0 then (none) else (some (mx (wrap64 (a2 - (wrap64 (Int.tdiv (wrap64 ((wrap64 (-(wrap64 ((ji61) - (wrap64 ((wrap64 (a0_2 + a1)) * (wrap64 ((wrap64 (20 + a2)) + (wrap64 (300 * a4)))))))))) * 36)) (wrap64 ((wrap64 (a0_2 + a1)) * 10000)))))) 0, 0))) else (some (a2, 0))))) = some (r1, r2) := by first | (rw [hji62] at H; exact H) | (simp only [hji62] at H ⊢; exact H)
     have hji62_ : (if a3 < a0_0 then a3 else a0_0) = ji62 := hji62
     by_cases c63 : a2 > (ji62)
     ·rw [if_pos c63] at H
      have c63b0 : decide ((ji62) < a2) = true := decide_eq_true c63
      clear c63
      obtain ⟨ji64, hji64⟩ : ∃ j_ : Int, (mx (ji62) (wrap64 (a2 - 10))) = j_ := ⟨_, rfl⟩
      replace H : (some (ji64, 0)) = some (r1, r2) := by first | (rw [hji64] at H; exact H) | (simp only [hji64] at H ⊢; exact H)
      have hji64_ : (if (ji62) < (wrap64 (a2 - 10)) then (wrap64 (a2 - 10)) else (ji62)) = ji64 := hji64
      simp only [Option.some.injEq, Prod.mk.injEq] at H
      obtain ⟨rfl, rfl⟩ := H
      obtain ⟨hcz65_0, hcz65_1, hcz65_2, hcz65_3, hcz65_4, hcz65_5, hcz65_6, hcz65_7, hfz65_0, hfz65_1, hfz65_2, hfz65_3, hfz65_4, hfz65_5, hfz65_6, hfz65_7⟩ := cs8_ BK183.out
      go_wp2
      repeat (go_quiet (fail); try go_wp2)
      go_ret2
      exact ⟨by first | rfl | (simp [errW_none, errW_some] <;> rfl) | (simp only [← hji59, ← hji61, ← hji62, ← hji64]; first | rfl | (simp [errW_none, errW_some] <;> rfl)) | (simp [*, errW_none, errW_some] <;> rfl), dL1_ HB GE183⟩
     ·rw [if_neg c63] at H
      have c63b0 : decide ((ji62) < a2) = false := decide_eq_false c63
      clear c63
      by_cases c66 : (wrap64 ((ji61) - (wrap64 ((wrap64 (a0_2 + a1)) * (wrap64 ((wrap64 (20 + a2)) + (wrap64 (300 * a4)))))))) > 0
      ·rw [if_pos c66] at H
       have c66b0 : decide (0 < (wrap64 ((ji61) - (wrap64 ((wrap64 (a0_2 + a1)) * (wrap64 ((wrap64 (20 + a2)) + (wrap64 (300 * a4))))))))) = true := decide_eq_true c66
       clear c66
       by_cases c67 : (wrap64 ((wrap64 (a0_2 + a1)) * 10000)) = 0
       ·rw [if_pos c67] at H
        exact absurd H (by simp)
       ·rw [if_neg c67] at H
        have c67b0 : ((wrap64 ((wrap64 (a0_2 + a1)) * 10000)) == 0) = false := beq_eq_false_iff_ne.mpr c67
        have c67b1 : ((wrap64 ((wrap64 (a0_2 + a1)) * 10000)) != 0) = true := bne_iff_ne.mpr c67
        obtain ⟨ji68, hji68⟩ : ∃ j_ : Int, (mx (wrap64 (Int.tdiv (wrap64 ((wrap64 ((ji61) - (wrap64 ((wrap64 (a0_2 + a1)) * (wrap64 ((wrap64 (20 + a2)) + (wrap64 (300 * a4)))))))) * 36)) (wrap64 ((wrap64 (a0_2 + a1)) * 10000)))) 1) = j_ := ⟨_, rfl⟩
        replace H : (some (mn (wrap64 (a2 + (ji68))) (ji62), 0)) = some (r1, r2) := by first | (rw [hji68] at H; exact H) | (simp only [hji68] at H ⊢; exact H)
        have hji68_ : (if (wrap64 (Int.tdiv (wrap64 ((wrap64 ((ji61) - (wrap64 ((wrap64 (a0_2 + a1)) * (wrap64 ((wrap64 (20 + a2)) + (wrap64 (300 * a4)))))))) * 36)) (wrap64 ((wrap64 (a0_2 + a1)) * 10000)))) < 1 then 1 else (wrap64 (Int.tdiv (wrap64 ((wrap64 ((ji61) - (wrap64 ((wrap64 (a0_2 + a1)) * (wrap64 ((wrap64 (20 + a2)) + (wrap64 (300 * a4)))))))) * 36)) (wrap64 ((wrap64 (a0_2 + a1)) * 10000))))) = ji68 := hji68
        obtain ⟨ji69, hji69⟩ : ∃ j_ : Int, (mn (wrap64 (a2 + (ji68))) (ji62)) = j_ := ⟨_, rfl⟩
        replace H : (some (ji69, 0)) = some (r1, r2) := by first | (rw [hji69] at H; exact H) | (simp only [hji69] at H ⊢; exact H)
        have hji69_ : (if (ji62) < (wrap64 (a2 + (ji68))) then (ji62) else (wrap64 (a2 + (ji68)))) = ji69 := hji69
        simp only [Option.some.injEq, Prod.mk.injEq] at H
        obtain ⟨rfl, rfl⟩ := H
        obtain ⟨hcz70_0, hcz70_1, hcz70_2, hcz70_3, hcz70_4, hcz70_5, hcz70_6, hcz70_7, hfz70_0, hfz70_1, hfz70_2, hfz70_3, hfz70_4, hfz70_5, hfz70_6, hfz70_7⟩ := cs8_ BK183.out
        go_wp2
        repeat (go_quiet (fail); try go_wp2)
        go_ret2
        exact ⟨by first | rfl | (simp [errW_none, errW_some] <;> rfl) | (simp only [← hji59, ← hji61, ← hji62, ← hji68, ← hji69]; first | rfl | (simp [errW_none, errW_some] <;> rfl)) | (simp [*, errW_none, errW_some] <;> rfl), dL1_ HB GE183⟩
      ·rw [if_neg c66] at H
       have c66b0 : decide (0 < (wrap64 ((ji61) - (wrap64 ((wrap64 (a0_2 + a1)) * (wrap64 ((wrap64 (20 + a2)) + (wrap64 (300 * a4))))))))) = false := decide_eq_false c66
       clear c66
       by_cases c71 : (wrap64 ((ji61) - (wrap64 ((wrap64 (a0_2 + a1)) * (wrap64 ((wrap64 (20 + a2)) + (wrap64 (300 * a4)))))))) < 0
       ·rw [if_pos c71] at H
        have c71b0 : decide ((wrap64 ((ji61) - (wrap64 ((wrap64 (a0_2 + a1)) * (wrap64 ((wrap64 (20 + a2)) + (wrap64 (300 * a4)))))))) < 0) = true := decide_eq_true c71
        clear c71
        by_cases c72 : (wrap64 ((wrap64 (a0_2 + a1)) * 10000)) = 0
        ·rw [if_pos c72] at H
         exact absurd H (by simp)
        ·rw [if_neg c72] at H
         have c72b0 : ((wrap64 ((wrap64 (a0_2 + a1)) * 10000)) == 0) = false := beq_eq_false_iff_ne.mpr c72
         have c72b1 : ((wrap64 ((wrap64 (a0_2 + a1)) * 10000)) != 0) = true := bne_iff_ne.mpr c72
         obtain ⟨ji73, hji73⟩ : ∃ j_ : Int, (mx (wrap64 (a2 - (wrap64 (Int.tdiv (wrap64 ((wrap64 (-(wrap64 ((ji61) - (wrap64 ((wrap64 (a0_2 + a1)) * (wrap64 ((wrap64 (20 + a2)) + (wrap64 (300 * a4)))))))))) * 36)) (wrap64 ((wrap64 (a0_2 + a1)) * 10000)))))) 0) = j_ := ⟨_, rfl⟩
         replace H : (some (ji73, 0)) = some (r1, r2) := by first | (rw [hji73] at H; exact H) | (simp only [hji73] at H ⊢; exact H)
         have hji73_ : (if (wrap64 (a2 - (wrap64 (Int.tdiv (wrap64 ((wrap64 (-(wrap64 ((ji61) - (wrap64 ((wrap64 (a0_2 + a1)) * (wrap64 ((wrap64 (20 + a2)) + (wrap64 (300 * a4)))))))))) * 36)) (wrap64 ((wrap64 (a0_2 + a1)) * 10000)))))) < 0 then 0 else (wrap64 (a2 - (wrap64 (Int.tdiv (wrap64 ((wrap64 (-(wrap64 ((ji61) - (wrap64 ((wrap64 (a0_2 + a1)) * (wrap64 ((wrap64 (20 + a2)) + (wrap64 (300 * a4)))))))))) * 36)) (wrap64 ((wrap64 (a0_2 + a1)) * 10000))))))) = ji73 := hji73
         simp only [Option.some.injEq, Prod.mk.injEq] at H
         obtain ⟨rfl, rfl⟩ := H
         obtain ⟨hcz74_0, hcz74_1, hcz74_2, hcz74_3, hcz74_4, hcz74_5, hcz74_6, hcz74_7, hfz74_0, hfz74_1, hfz74_2, hfz74_3, hfz74_4, hfz74_5, hfz74_6, hfz74_7⟩ := cs8_ BK183.out
         go_wp2
         repeat (go_quiet (fail); try go_wp2)
         go_ret2
         exact ⟨by first | rfl | (simp [errW_none, errW_some] <;> rfl) | (simp only [← hji59, ← hji61, ← hji62, ← hji73]; first | rfl | (simp [errW_none, errW_some] <;> rfl)) | (simp [*, errW_none, errW_some] <;> rfl), dL1_ HB GE183⟩
       ·rw [if_neg c71] at H
        have c71b0 : decide ((wrap64 ((ji61) - (wrap64 ((wrap64 (a0_2 + a1)) * (wrap64 ((wrap64 (20 + a2)) + (wrap64 (300 * a4)))))))) < 0) = false := decide_eq_false c71
        clear c71
        simp only [Option.some.injEq, Prod.mk.injEq] at H
        obtain ⟨rfl, rfl⟩ := H
        obtain ⟨hcz75_0, hcz75_1, hcz75_2, hcz75_3, hcz75_4, hcz75_5, hcz75_6, hcz75_7, hfz75_0, hfz75_1, hfz75_2, hfz75_3, hfz75_4, hfz75_5, hfz75_6, hfz75_7⟩ := cs8_ BK183.out
        go_wp2
        repeat (go_quiet (fail); try go_wp2)
        go_ret2
        exact ⟨by first | rfl | (simp [errW_none, errW_some] <;> rfl) | (simp only [← hji59, ← hji61, ← hji62]; first | rfl | (simp [errW_none, errW_some] <;> rfl)) | (simp [*, errW_none, errW_some] <;> rfl), dL1_ HB GE183⟩

end Go.Proofs.Ytgnahbjpockdmab.Q
