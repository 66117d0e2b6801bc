-- PRINTED by print.py (a twelfth state) out of the translation. Not trusted: Lean checks it.
import Derived.Test.YtgnahbjpockdmaaQ0
import Derived.Test.YtgnahbjpockdmaaQ14
namespace Go.Proofs.Ytgnahbjpockdmaa.Q
open Go.RowKit Go.Proofs.YtgnahbjpockdmaaOwn Go.Proofs.YtgnahbjpockdmaaW.PrintWords Go.Proofs.YtgnahbjpockdmaaW.PrintLast Go.Proofs.YtgnahbjpockdmaaW.PrintMore
attribute [local go_sem] max2_int min2_int max_two min_two max_three min_three max_four min_four   -- for this text's walks alone
set_option linter.unusedVariables false
set_option linter.unusedSimpArgs false

/-! ### hinterlandref14_Speed: function 22 -/
mutual
def hinterlandref14_Speed.l0 : Nat → Int → Int → Int → Int → List Int → Int → Int → Int → Int → Int → Int → Int → Int → Int → Bool → Option (Int × Int)
  | 0, _, _, _, _, _, _, _, _, _, _, _, _, _, _, _ => none
  | k + 1, x1, x2, x3, x4, x32, x33, x34, x317000, x317001, x317002, x317003, x317004, x317005, x317006, x317007 => if x34 < x33 then (if 0 ≤ x34 then (if x34 < (x32.length : Int) then (if (rd x32 x34) < 0 then (hinterlandref14_Speed.j1 k x1 x2 x3 x4 x32 x33 x34 true x317000 x317001 x317002 x317003 x317004 x317005 x317006 x317007) else (hinterlandref14_Speed.j1 k x1 x2 x3 x4 x32 x33 x34 (decide ((rd x32 x34) > 1000000000)) x317000 x317001 x317002 x317003 x317004 x317005 x317006 x317007)) else (none)) else (none)) else (if x317002 > 1000000000 then (hinterlandref14_Speed.j2 k x1 x2 x3 x4 true x317000 x317001 x317002 x317003 x317004 x317005 x317006 x317007) else ((hinterlandref14_within.f x1 0 1000000).bind fun t321 => (if t321 = true then ((hinterlandref14_within.f x2 0 600).bind fun t322 => (if t322 = true then ((hinterlandref14_within.f x3 0 600).bind fun t323 => (if t323 = true then ((hinterlandref14_within.f x4 (-1) 1).bind fun t324 => (hinterlandref14_Speed.j2 k x1 x2 x3 x4 (!t324) x317000 x317001 x317002 x317003 x317004 x317005 x317006 x317007)) else (hinterlandref14_Speed.j2 k x1 x2 x3 x4 true x317000 x317001 x317002 x317003 x317004 x317005 x317006 x317007))) else (hinterlandref14_Speed.j2 k x1 x2 x3 x4 true x317000 x317001 x317002 x317003 x317004 x317005 x317006 x317007))) else (hinterlandref14_Speed.j2 k x1 x2 x3 x4 true x317000 x317001 x317002 x317003 x317004 x317005 x317006 x317007))))
def hinterlandref14_Speed.j1 : Nat → Int → Int → Int → Int → List Int → Int → Int → Bool → Int → Int → Int → Int → Int → Int → Int → Bool → Option (Int × Int)
  | 0, _, _, _, _, _, _, _, _, _, _, _, _, _, _, _, _ => none
  | k + 1, x1, x2, x3, x4, x32, x33, x34, x43, x317000, x317001, x317002, x317003, x317004, x317005, x317006, x317007 => if x43 = true then (some (0, 1)) else (hinterlandref14_Speed.l0 k x1 x2 x3 x4 x32 x33 (wrap64 (x34 + 1)) x317000 x317001 x317002 x317003 x317004 x317005 x317006 x317007)
def hinterlandref14_Speed.j2 : Nat → Int → Int → Int → Int → Bool → Int → Int → Int → Int → Int → Int → Int → Bool → Option (Int × Int)
  | 0, _, _, _, _, _, _, _, _, _, _, _, _, _ => none
  | k + 1, x1, x2, x3, x4, x67, x317000, x317001, x317002, x317003, x317004, x317005, x317006, x317007 => if x67 = true then (some (0, 1)) else (if x2 > (mn x317000 x3) then (some (mx (mn x317000 x3) (wrap64 (x2 - 10)), 0)) else (if (mx x2 1) = 0 then (none) else (if (wrap64 ((mn (wrap64 (1000 * x317003)) (wrap64 (Int.tdiv (wrap64 (3600 * x317001)) (mx x2 1)))) - (wrap64 ((wrap64 (x317002 + x1)) * (wrap64 ((wrap64 (20 + x2)) + (wrap64 (300 * x4)))))))) > 0 then (if (wrap64 ((wrap64 (x317002 + x1)) * 10000)) = 0 then (none) else (some (mn (wrap64 (x2 + (mx (wrap64 (Int.tdiv (wrap64 ((wrap64 ((mn (wrap64 (1000 * x317003)) (wrap64 (Int.tdiv (wrap64 (3600 * x317001)) (mx x2 1)))) - (wrap64 ((wrap64 (x317002 + x1)) * (wrap64 ((wrap64 (20 + x2)) + (wrap64 (300 * x4)))))))) * 36)) (wrap64 ((wrap64 (x317002 + x1)) * 10000)))) 1))) (mn x317000 x3), 0))) else (if (wrap64 ((mn (wrap64 (1000 * x317003)) (wrap64 (Int.tdiv (wrap64 (3600 * x317001)) (mx x2 1)))) - (wrap64 ((wrap64 (x317002 + x1)) * (wrap64 ((wrap64 (20 + x2)) + (wrap64 (300 * x4)))))))) < 0 then (if (wrap64 ((wrap64 (x317002 + x1)) * 10000)) = 0 then (none) else (some (mx (wrap64 (x2 - (wrap64 (Int.tdiv (wrap64 ((wrap64 (-(wrap64 ((mn (wrap64 (1000 * x317003)) (wrap64 (Int.tdiv (wrap64 (3600 * x317001)) (mx x2 1)))) - (wrap64 ((wrap64 (x317002 + x1)) * (wrap64 ((wrap64 (20 + x2)) + (wrap64 (300 * x4)))))))))) * 36)) (wrap64 ((wrap64 (x317002 + x1)) * 10000)))))) 0, 0))) else (some (x2, 0))))))
end
def hinterlandref14_Speed.f (k : Nat) (a0_0 : Int) (a0_1 : Int) (a0_2 : Int) (a0_3 : Int) (a0_4 : Int) (a0_5 : Int) (a0_6 : Int) (a0_7 : Bool) (a1 : Int) (a2 : Int) (a3 : Int) (a4 : Int) : Option (Int × Int) := (some (([a0_0, a0_1, wrap64 (a0_2 - 1), a0_3, a0_4, a0_5, a0_6] : List Int) : List Int)).bind fun y317 => (hinterlandref14_Speed.l0 k a1 a2 a3 a4 y317 (y317.length : Int) 0 a0_0 a0_1 a0_2 a0_3 a0_4 a0_5 a0_6 a0_7)
theorem hinterlandref14_Speed.mono_l : ∀ k, (∀ y0 y1 y2 y3 y4 y5 y6 y7 y8 y9 y10 y11 y12 y13 y14, LeO (hinterlandref14_Speed.l0 k y0 y1 y2 y3 y4 y5 y6 y7 y8 y9 y10 y11 y12 y13 y14) (hinterlandref14_Speed.l0 (k + 1) y0 y1 y2 y3 y4 y5 y6 y7 y8 y9 y10 y11 y12 y13 y14)) ∧ (∀ y0 y1 y2 y3 y4 y5 y6 y7 y8 y9 y10 y11 y12 y13 y14 y15, LeO (hinterlandref14_Speed.j1 k y0 y1 y2 y3 y4 y5 y6 y7 y8 y9 y10 y11 y12 y13 y14 y15) (hinterlandref14_Speed.j1 (k + 1) y0 y1 y2 y3 y4 y5 y6 y7 y8 y9 y10 y11 y12 y13 y14 y15)) ∧ (∀ y0 y1 y2 y3 y4 y5 y6 y7 y8 y9 y10 y11 y12, LeO (hinterlandref14_Speed.j2 k y0 y1 y2 y3 y4 y5 y6 y7 y8 y9 y10 y11 y12) (hinterlandref14_Speed.j2 (k + 1) y0 y1 y2 y3 y4 y5 y6 y7 y8 y9 y10 y11 y12))
  | 0 => ⟨fun _ _ _ _ _ _ _ _ _ _ _ _ _ _ _ r h => by simp [hinterlandref14_Speed.l0] at h, fun _ _ _ _ _ _ _ _ _ _ _ _ _ _ _ _ r h => by simp [hinterlandref14_Speed.j1] at h, fun _ _ _ _ _ _ _ _ _ _ _ _ _ r h => by simp [hinterlandref14_Speed.j2] at h⟩
  | k + 1 => by
    obtain ⟨ih0, ih1, ih2⟩ := hinterlandref14_Speed.mono_l k
    refine ⟨?_, ?_, ?_⟩
    · intro y0 y1 y2 y3 y4 y5 y6 y7 y8 y9 y10 y11 y12 y13 y14
      unfold hinterlandref14_Speed.l0
      repeat' first
      | (with_reducible exact ih0 _ _ _ _ _ _ _ _ _ _ _ _ _ _ _)
      | (with_reducible exact ih1 _ _ _ _ _ _ _ _ _ _ _ _ _ _ _ _)
      | (with_reducible exact ih2 _ _ _ _ _ _ _ _ _ _ _ _ _)
      | (with_reducible exact LeO.refl _)
      | (with_reducible exact LeO.none _)
      | (with_reducible refine LeO.ite ?_ ?_)
      | (with_reducible refine LeO.bind ?_ (fun _ => ?_))
      | exact ih0 _ _ _ _ _ _ _ _ _ _ _ _ _ _ _
      | exact ih1 _ _ _ _ _ _ _ _ _ _ _ _ _ _ _ _
      | exact ih2 _ _ _ _ _ _ _ _ _ _ _ _ _
      | exact LeO.none _
      | refine LeO.ite ?_ ?_
      | refine LeO.bind ?_ (fun _ => ?_)
    · intro y0 y1 y2 y3 y4 y5 y6 y7 y8 y9 y10 y11 y12 y13 y14 y15
      unfold hinterlandref14_Speed.j1
      repeat' first
      | (with_reducible exact ih0 _ _ _ _ _ _ _ _ _ _ _ _ _ _ _)
      | (with_reducible exact ih1 _ _ _ _ _ _ _ _ _ _ _ _ _ _ _ _)
      | (with_reducible exact ih2 _ _ _ _ _ _ _ _ _ _ _ _ _)
      | (with_reducible exact LeO.refl _)
      | (with_reducible exact LeO.none _)
      | (with_reducible refine LeO.ite ?_ ?_)
      | (with_reducible refine LeO.bind ?_ (fun _ => ?_))
      | exact ih0 _ _ _ _ _ _ _ _ _ _ _ _ _ _ _
      | exact ih1 _ _ _ _ _ _ _ _ _ _ _ _ _ _ _ _
      | exact ih2 _ _ _ _ _ _ _ _ _ _ _ _ _
      | exact LeO.none _
      | refine LeO.ite ?_ ?_
      | refine LeO.bind ?_ (fun _ => ?_)
    · intro y0 y1 y2 y3 y4 y5 y6 y7 y8 y9 y10 y11 y12
      unfold hinterlandref14_Speed.j2
      repeat' first
      | (with_reducible exact ih0 _ _ _ _ _ _ _ _ _ _ _ _ _ _ _)
      | (with_reducible exact ih1 _ _ _ _ _ _ _ _ _ _ _ _ _ _ _ _)
      | (with_reducible exact ih2 _ _ _ _ _ _ _ _ _ _ _ _ _)
      | (with_reducible exact LeO.refl _)
      | (with_reducible exact LeO.none _)
      | (with_reducible refine LeO.ite ?_ ?_)
      | (with_reducible refine LeO.bind ?_ (fun _ => ?_))
      | exact ih0 _ _ _ _ _ _ _ _ _ _ _ _ _ _ _
      | exact ih1 _ _ _ _ _ _ _ _ _ _ _ _ _ _ _ _
      | exact ih2 _ _ _ _ _ _ _ _ _ _ _ _ _
      | exact LeO.none _
      | refine LeO.ite ?_ ?_
      | refine LeO.bind ?_ (fun _ => ?_)
theorem hinterlandref14_Speed.mono : ∀ a0 a1 a2 a3 a4 a5 a6 a7 a8 a9 a10 a11 k, LeO (hinterlandref14_Speed.f k a0 a1 a2 a3 a4 a5 a6 a7 a8 a9 a10 a11) (hinterlandref14_Speed.f (k + 1) a0 a1 a2 a3 a4 a5 a6 a7 a8 a9 a10 a11) := by
  intro a0 a1 a2 a3 a4 a5 a6 a7 a8 a9 a10 a11 k
  obtain ⟨ih0, ih1, ih2⟩ := hinterlandref14_Speed.mono_l k
  unfold hinterlandref14_Speed.f
  repeat' first
      | (with_reducible exact ih0 _ _ _ _ _ _ _ _ _ _ _ _ _ _ _)
      | (with_reducible exact ih1 _ _ _ _ _ _ _ _ _ _ _ _ _ _ _ _)
      | (with_reducible exact ih2 _ _ _ _ _ _ _ _ _ _ _ _ _)
      | (with_reducible exact LeO.refl _)
      | (with_reducible exact LeO.none _)
      | (with_reducible refine LeO.ite ?_ ?_)
      | (with_reducible refine LeO.bind ?_ (fun _ => ?_))
      | exact ih0 _ _ _ _ _ _ _ _ _ _ _ _ _ _ _
      | exact ih1 _ _ _ _ _ _ _ _ _ _ _ _ _ _ _ _
      | exact ih2 _ _ _ _ _ _ _ _ _ _ _ _ _
      | exact LeO.none _
      | refine LeO.ite ?_ ?_
      | refine LeO.bind ?_ (fun _ => ?_)
set_option maxHeartbeats 8000000 in
set_option maxRecDepth 100000 in
theorem hinterlandref14_Speed.calls (k : Nat) (a0_0 : Int) (a0_1 : Int) (a0_2 : Int) (a0_3 : Int) (a0_4 : Int) (a0_5 : Int) (a0_6 : Int) (a0_7 : Bool) (a1 : Int) (a2 : Int) (a3 : Int) (a4 : Int) (r1 : Int) (r2 : Int) (w : World) (h : hinterlandref14_Speed.f k a0_0 a0_1 a0_2 a0_3 a0_4 a0_5 a0_6 a0_7 a1 a2 a3 a4 = some (r1, r2)) :
    Calls Try.prog 22 #[.agg #[.int .i64 a0_0, .int .i64 a0_1, .int .i64 a0_2, .int .i64 a0_3, .int .i64 a0_4, .int .i64 a0_5, .int .i64 a0_6, .bool a0_7], .int .i64 a1, .int .i64 a2, .int .i64 a3, .int .i64 a4] w fun e w' => e = .returned (.tuple #[.int .i64 r1, .int .i64 r2]) ∧ Below w.heap.size w w' := by
 have hu33 := Try.underlying33
 have HB := Aside0.mk (Below.refl w.heap.size w)
 have H : ((some (([a0_0, a0_1, wrap64 (a0_2 - 1), a0_3, a0_4, a0_5, a0_6] : List Int) : List Int)).bind fun y317 => (hinterlandref14_Speed.l0 k a1 a2 a3 a4 y317 (y317.length : Int) 0 a0_0 a0_1 a0_2 a0_3 a0_4 a0_5 a0_6 a0_7)) = some (r1, r2) := h
 clear h
 obtain ⟨y317, hy317⟩ : ∃ y_ : List Int, y_ = (([a0_0, a0_1, wrap64 (a0_2 - 1), a0_3, a0_4, a0_5, a0_6] : List Int)) := ⟨_, rfl⟩
 replace H : (hinterlandref14_Speed.l0 k a1 a2 a3 a4 y317 (y317.length : Int) 0 a0_0 a0_1 a0_2 a0_3 a0_4 a0_5 a0_6 a0_7) = some (r1, r2) := by first | (rw [hy317]; with_reducible exact H) | (have H2_ := (Option.bind_some _ _).symm.trans H; rw [hy317]; with_reducible exact H2_) | (have H2_ := (Option.bind_some _ _).symm.trans H; with_reducible exact H2_) | with_reducible exact H | (rw [hy317]; exact H) | exact H
 have Ny317 := Aside0.mk hy317
 clear hy317
 have H' := Aside0.mk H
 clear H
 go_enter Try.func22, Try.ntmps22
 go_wp2_with (first | ((with_reducible refine gate_dst (N := 5) rfl ?_); refine box_event ?hg (N := 5) ?hd (cs := #[.int .i64 a0_0, .int .i64 a0_1, .int .i64 a0_2, .int .i64 a0_3, .int .i64 a0_4, .int .i64 a0_5, .int .i64 a0_6, .bool a0_7]) (t := 33) ?hr ?_; (case hd => rfl); (case hg => rfl); (case hr => first | (go_simp; done) | (go_simp; rfl)); intro gb316 hg w6 hbox hb; have n0_ := Aside0.mk (below_step (by repeat (first | (with_reducible first | exact HB.out | apply below_alloc | apply pw_below_drewN | apply below_drew1) | exact HB.out)) hb); have n1_ := Aside0.mk (hbox); have n2_ := Aside0.mk ((by rw [hg]; exact (below_size (by repeat (first | (with_reducible first | exact HB.out | apply below_alloc | apply pw_below_drewN | apply below_drew1) | exact HB.out))) : w.heap.size ≤ gb316)); have n3_ := Aside0.mk ((by rw [hg]; exact (below_size (by repeat (first | (with_reducible first | exact HB.out | apply below_alloc | apply pw_below_drewN | apply below_drew1) | exact HB.out))) : w.heap.size ≤ gb316)); clear HB; have HB := n0_; have BK316 := n1_; have GW316 := n2_; have GE316 := n3_; clear n0_ n1_ n2_ n3_; clear hb hbox hg; have hcz7_0 : w6.cell? ⟨gb316, 0, none⟩ = some (.int .i64 a0_0) := (blk_cell BK316.out 0).trans rfl; have hcz7_1 : w6.cell? ⟨gb316, 1, none⟩ = some (.int .i64 a0_1) := (blk_cell BK316.out 1).trans rfl; have hcz7_2 : w6.cell? ⟨gb316, 2, none⟩ = some (.int .i64 a0_2) := (blk_cell BK316.out 2).trans rfl; have hcz7_3 : w6.cell? ⟨gb316, 3, none⟩ = some (.int .i64 a0_3) := (blk_cell BK316.out 3).trans rfl; have hcz7_4 : w6.cell? ⟨gb316, 4, none⟩ = some (.int .i64 a0_4) := (blk_cell BK316.out 4).trans rfl; have hcz7_5 : w6.cell? ⟨gb316, 5, none⟩ = some (.int .i64 a0_5) := (blk_cell BK316.out 5).trans rfl; have hcz7_6 : w6.cell? ⟨gb316, 6, none⟩ = some (.int .i64 a0_6) := (blk_cell BK316.out 6).trans rfl; have hcz7_7 : w6.cell? ⟨gb316, 7, none⟩ = some (.bool a0_7) := (blk_cell BK316.out 7).trans rfl; have hfz7_0 := blk_frozen BK316.out 0; have hfz7_1 := blk_frozen BK316.out 1; have hfz7_2 := blk_frozen BK316.out 2; have hfz7_3 := blk_frozen BK316.out 3; have hfz7_4 := blk_frozen BK316.out 4; have hfz7_5 := blk_frozen BK316.out 5; have hfz7_6 := blk_frozen BK316.out 6; have hfz7_7 := blk_frozen BK316.out 7) | ((with_reducible refine gate_dst (N := 32) rfl ?_); refine Kd.R_lit (Kd.int .i64) _ 3 ?hg (N := 32) ?hd (xs := ([a0_0, a0_1, wrap64 (a0_2 - 1), a0_3, a0_4, a0_5, a0_6] : List Int)) (inner := [.int .i64 a0_0, .int .i64 a0_1, .int .i64 (wrap64 (a0_2 - 1)), .int .i64 a0_3, .int .i64 a0_4, .int .i64 a0_5, .int .i64 a0_6]) (ok := fun _ => True) (okp := fun _ => True) ?hr ?hp (fun _ hk => hk) trivial (Below.refl _ _) (Nat.le_refl _) (by simp) ?_; (case hd => rfl); (case hg => rfl); (case hr => first | (go_simp; done) | (go_simp; rfl)); (case hp => exact (Reps.one (show Kd.M (Kd.int .i64) _ _ _ a0_0 [.int .i64 a0_0] from rfl) (Reps.one (show Kd.M (Kd.int .i64) _ _ _ a0_1 [.int .i64 a0_1] from rfl) (Reps.one (show Kd.M (Kd.int .i64) _ _ _ (wrap64 (a0_2 - 1)) [.int .i64 (wrap64 (a0_2 - 1))] from rfl) (Reps.one (show Kd.M (Kd.int .i64) _ _ _ a0_3 [.int .i64 a0_3] from rfl) (Reps.one (show Kd.M (Kd.int .i64) _ _ _ a0_4 [.int .i64 a0_4] from rfl) (Reps.one (show Kd.M (Kd.int .i64) _ _ _ a0_5 [.int .i64 a0_5] from rfl) (Reps.one (show Kd.M (Kd.int .i64) _ _ _ a0_6 [.int .i64 a0_6] from rfl) (Reps.none _ _))))))))); intro v318 w8 ho9 hb hg_ hnew_; clear hg_ hnew_; (first | rw [← Ny317.out] at ho9 | (simp only [Int.reduceToNat] at ho9; rw [← Ny317.out] at ho9)); have n0_ := Aside0.mk (Kd.R_lower ho9 (below_size (by repeat (first | (with_reducible first | exact HB.out | apply below_alloc | apply pw_below_drewN | apply below_drew1 | refine below_set ?_ GE316.out) | exact HB.out)))); have n1_ := Aside0.mk (blk_below (g := gb316) (o := .cells #[.int .i64 a0_0, .int .i64 a0_1, .int .i64 a0_2, .int .i64 a0_3, .int .i64 a0_4, .int .i64 a0_5, .int .i64 a0_6, .bool a0_7] 33 (0, 0)) (by (with_reducible repeat (first | refine blk_drewN ?_ _ | refine blk_drew ?_ | refine blk_alloc ?_ _)); exact BK316.out) hb); have n2_ := Aside0.mk (below_step (by repeat (first | (with_reducible first | exact HB.out | apply below_alloc | apply pw_below_drewN | apply below_drew1 | refine below_set ?_ GE316.out) | exact HB.out)) hb); clear BK316; clear HB; have HO319 := n0_; have BK316 := n1_; have HB := n2_; clear n0_ n1_ n2_; clear hb ho9; obtain ⟨Ao10, co10, eo10⟩ := Kd.R_slice HO319.out; subst eo10))
 repeat (go_quiet (first | ((with_reducible refine gate_dst (N := 5) rfl ?_); refine box_event ?hg (N := 5) ?hd (cs := #[.int .i64 a0_0, .int .i64 a0_1, .int .i64 a0_2, .int .i64 a0_3, .int .i64 a0_4, .int .i64 a0_5, .int .i64 a0_6, .bool a0_7]) (t := 33) ?hr ?_; (case hd => rfl); (case hg => rfl); (case hr => first | (go_simp; done) | (go_simp; rfl)); intro gb316 hg w6 hbox hb; have n0_ := Aside0.mk (below_step (by repeat (first | (with_reducible first | exact HB.out | apply below_alloc | apply pw_below_drewN | apply below_drew1) | exact HB.out)) hb); have n1_ := Aside0.mk (hbox); have n2_ := Aside0.mk ((by rw [hg]; exact (below_size (by repeat (first | (with_reducible first | exact HB.out | apply below_alloc | apply pw_below_drewN | apply below_drew1) | exact HB.out))) : w.heap.size ≤ gb316)); have n3_ := Aside0.mk ((by rw [hg]; exact (below_size (by repeat (first | (with_reducible first | exact HB.out | apply below_alloc | apply pw_below_drewN | apply below_drew1) | exact HB.out))) : w.heap.size ≤ gb316)); clear HB; have HB := n0_; have BK316 := n1_; have GW316 := n2_; have GE316 := n3_; clear n0_ n1_ n2_ n3_; clear hb hbox hg; have hcz7_0 : w6.cell? ⟨gb316, 0, none⟩ = some (.int .i64 a0_0) := (blk_cell BK316.out 0).trans rfl; have hcz7_1 : w6.cell? ⟨gb316, 1, none⟩ = some (.int .i64 a0_1) := (blk_cell BK316.out 1).trans rfl; have hcz7_2 : w6.cell? ⟨gb316, 2, none⟩ = some (.int .i64 a0_2) := (blk_cell BK316.out 2).trans rfl; have hcz7_3 : w6.cell? ⟨gb316, 3, none⟩ = some (.int .i64 a0_3) := (blk_cell BK316.out 3).trans rfl; have hcz7_4 : w6.cell? ⟨gb316, 4, none⟩ = some (.int .i64 a0_4) := (blk_cell BK316.out 4).trans rfl; have hcz7_5 : w6.cell? ⟨gb316, 5, none⟩ = some (.int .i64 a0_5) := (blk_cell BK316.out 5).trans rfl; have hcz7_6 : w6.cell? ⟨gb316, 6, none⟩ = some (.int .i64 a0_6) := (blk_cell BK316.out 6).trans rfl; have hcz7_7 : w6.cell? ⟨gb316, 7, none⟩ = some (.bool a0_7) := (blk_cell BK316.out 7).trans rfl; have hfz7_0 := blk_frozen BK316.out 0; have hfz7_1 := blk_frozen BK316.out 1; have hfz7_2 := blk_frozen BK316.out 2; have hfz7_3 := blk_frozen BK316.out 3; have hfz7_4 := blk_frozen BK316.out 4; have hfz7_5 := blk_frozen BK316.out 5; have hfz7_6 := blk_frozen BK316.out 6; have hfz7_7 := blk_frozen BK316.out 7) | ((with_reducible refine gate_dst (N := 32) rfl ?_); refine Kd.R_lit (Kd.int .i64) _ 3 ?hg (N := 32) ?hd (xs := ([a0_0, a0_1, wrap64 (a0_2 - 1), a0_3, a0_4, a0_5, a0_6] : List Int)) (inner := [.int .i64 a0_0, .int .i64 a0_1, .int .i64 (wrap64 (a0_2 - 1)), .int .i64 a0_3, .int .i64 a0_4, .int .i64 a0_5, .int .i64 a0_6]) (ok := fun _ => True) (okp := fun _ => True) ?hr ?hp (fun _ hk => hk) trivial (Below.refl _ _) (Nat.le_refl _) (by simp) ?_; (case hd => rfl); (case hg => rfl); (case hr => first | (go_simp; done) | (go_simp; rfl)); (case hp => exact (Reps.one (show Kd.M (Kd.int .i64) _ _ _ a0_0 [.int .i64 a0_0] from rfl) (Reps.one (show Kd.M (Kd.int .i64) _ _ _ a0_1 [.int .i64 a0_1] from rfl) (Reps.one (show Kd.M (Kd.int .i64) _ _ _ (wrap64 (a0_2 - 1)) [.int .i64 (wrap64 (a0_2 - 1))] from rfl) (Reps.one (show Kd.M (Kd.int .i64) _ _ _ a0_3 [.int .i64 a0_3] from rfl) (Reps.one (show Kd.M (Kd.int .i64) _ _ _ a0_4 [.int .i64 a0_4] from rfl) (Reps.one (show Kd.M (Kd.int .i64) _ _ _ a0_5 [.int .i64 a0_5] from rfl) (Reps.one (show Kd.M (Kd.int .i64) _ _ _ a0_6 [.int .i64 a0_6] from rfl) (Reps.none _ _))))))))); intro v318 w8 ho9 hb hg_ hnew_; clear hg_ hnew_; (first | rw [← Ny317.out] at ho9 | (simp only [Int.reduceToNat] at ho9; rw [← Ny317.out] at ho9)); have n0_ := Aside0.mk (Kd.R_lower ho9 (below_size (by repeat (first | (with_reducible first | exact HB.out | apply below_alloc | apply pw_below_drewN | apply below_drew1 | refine below_set ?_ GE316.out) | exact HB.out)))); have n1_ := Aside0.mk (blk_below (g := gb316) (o := .cells #[.int .i64 a0_0, .int .i64 a0_1, .int .i64 a0_2, .int .i64 a0_3, .int .i64 a0_4, .int .i64 a0_5, .int .i64 a0_6, .bool a0_7] 33 (0, 0)) (by (with_reducible repeat (first | refine blk_drewN ?_ _ | refine blk_drew ?_ | refine blk_alloc ?_ _)); exact BK316.out) hb); have n2_ := Aside0.mk (below_step (by repeat (first | (with_reducible first | exact HB.out | apply below_alloc | apply pw_below_drewN | apply below_drew1 | refine below_set ?_ GE316.out) | exact HB.out)) hb); clear BK316; clear HB; have HO319 := n0_; have BK316 := n1_; have HB := n2_; clear n0_ n1_ n2_; clear hb ho9; obtain ⟨Ao10, co10, eo10⟩ := Kd.R_slice HO319.out; subst eo10)); try go_wp2_with (first | ((with_reducible refine gate_dst (N := 5) rfl ?_); refine box_event ?hg (N := 5) ?hd (cs := #[.int .i64 a0_0, .int .i64 a0_1, .int .i64 a0_2, .int .i64 a0_3, .int .i64 a0_4, .int .i64 a0_5, .int .i64 a0_6, .bool a0_7]) (t := 33) ?hr ?_; (case hd => rfl); (case hg => rfl); (case hr => first | (go_simp; done) | (go_simp; rfl)); intro gb316 hg w6 hbox hb; have n0_ := Aside0.mk (below_step (by repeat (first | (with_reducible first | exact HB.out | apply below_alloc | apply pw_below_drewN | apply below_drew1) | exact HB.out)) hb); have n1_ := Aside0.mk (hbox); have n2_ := Aside0.mk ((by rw [hg]; exact (below_size (by repeat (first | (with_reducible first | exact HB.out | apply below_alloc | apply pw_below_drewN | apply below_drew1) | exact HB.out))) : w.heap.size ≤ gb316)); have n3_ := Aside0.mk ((by rw [hg]; exact (below_size (by repeat (first | (with_reducible first | exact HB.out | apply below_alloc | apply pw_below_drewN | apply below_drew1) | exact HB.out))) : w.heap.size ≤ gb316)); clear HB; have HB := n0_; have BK316 := n1_; have GW316 := n2_; have GE316 := n3_; clear n0_ n1_ n2_ n3_; clear hb hbox hg; have hcz7_0 : w6.cell? ⟨gb316, 0, none⟩ = some (.int .i64 a0_0) := (blk_cell BK316.out 0).trans rfl; have hcz7_1 : w6.cell? ⟨gb316, 1, none⟩ = some (.int .i64 a0_1) := (blk_cell BK316.out 1).trans rfl; have hcz7_2 : w6.cell? ⟨gb316, 2, none⟩ = some (.int .i64 a0_2) := (blk_cell BK316.out 2).trans rfl; have hcz7_3 : w6.cell? ⟨gb316, 3, none⟩ = some (.int .i64 a0_3) := (blk_cell BK316.out 3).trans rfl; have hcz7_4 : w6.cell? ⟨gb316, 4, none⟩ = some (.int .i64 a0_4) := (blk_cell BK316.out 4).trans rfl; have hcz7_5 : w6.cell? ⟨gb316, 5, none⟩ = some (.int .i64 a0_5) := (blk_cell BK316.out 5).trans rfl; have hcz7_6 : w6.cell? ⟨gb316, 6, none⟩ = some (.int .i64 a0_6) := (blk_cell BK316.out 6).trans rfl; have hcz7_7 : w6.cell? ⟨gb316, 7, none⟩ = some (.bool a0_7) := (blk_cell BK316.out 7).trans rfl; have hfz7_0 := blk_frozen BK316.out 0; have hfz7_1 := blk_frozen BK316.out 1; have hfz7_2 := blk_frozen BK316.out 2; have hfz7_3 := blk_frozen BK316.out 3; have hfz7_4 := blk_frozen BK316.out 4; have hfz7_5 := blk_frozen BK316.out 5; have hfz7_6 := blk_frozen BK316.out 6; have hfz7_7 := blk_frozen BK316.out 7) | ((with_reducible refine gate_dst (N := 32) rfl ?_); refine Kd.R_lit (Kd.int .i64) _ 3 ?hg (N := 32) ?hd (xs := ([a0_0, a0_1, wrap64 (a0_2 - 1), a0_3, a0_4, a0_5, a0_6] : List Int)) (inner := [.int .i64 a0_0, .int .i64 a0_1, .int .i64 (wrap64 (a0_2 - 1)), .int .i64 a0_3, .int .i64 a0_4, .int .i64 a0_5, .int .i64 a0_6]) (ok := fun _ => True) (okp := fun _ => True) ?hr ?hp (fun _ hk => hk) trivial (Below.refl _ _) (Nat.le_refl _) (by simp) ?_; (case hd => rfl); (case hg => rfl); (case hr => first | (go_simp; done) | (go_simp; rfl)); (case hp => exact (Reps.one (show Kd.M (Kd.int .i64) _ _ _ a0_0 [.int .i64 a0_0] from rfl) (Reps.one (show Kd.M (Kd.int .i64) _ _ _ a0_1 [.int .i64 a0_1] from rfl) (Reps.one (show Kd.M (Kd.int .i64) _ _ _ (wrap64 (a0_2 - 1)) [.int .i64 (wrap64 (a0_2 - 1))] from rfl) (Reps.one (show Kd.M (Kd.int .i64) _ _ _ a0_3 [.int .i64 a0_3] from rfl) (Reps.one (show Kd.M (Kd.int .i64) _ _ _ a0_4 [.int .i64 a0_4] from rfl) (Reps.one (show Kd.M (Kd.int .i64) _ _ _ a0_5 [.int .i64 a0_5] from rfl) (Reps.one (show Kd.M (Kd.int .i64) _ _ _ a0_6 [.int .i64 a0_6] from rfl) (Reps.none _ _))))))))); intro v318 w8 ho9 hb hg_ hnew_; clear hg_ hnew_; (first | rw [← Ny317.out] at ho9 | (simp only [Int.reduceToNat] at ho9; rw [← Ny317.out] at ho9)); have n0_ := Aside0.mk (Kd.R_lower ho9 (below_size (by repeat (first | (with_reducible first | exact HB.out | apply below_alloc | apply pw_below_drewN | apply below_drew1 | refine below_set ?_ GE316.out) | exact HB.out)))); have n1_ := Aside0.mk (blk_below (g := gb316) (o := .cells #[.int .i64 a0_0, .int .i64 a0_1, .int .i64 a0_2, .int .i64 a0_3, .int .i64 a0_4, .int .i64 a0_5, .int .i64 a0_6, .bool a0_7] 33 (0, 0)) (by (with_reducible repeat (first | refine blk_drewN ?_ _ | refine blk_drew ?_ | refine blk_alloc ?_ _)); exact BK316.out) hb); have n2_ := Aside0.mk (below_step (by repeat (first | (with_reducible first | exact HB.out | apply below_alloc | apply pw_below_drewN | apply below_drew1 | refine below_set ?_ GE316.out) | exact HB.out)) hb); clear BK316; clear HB; have HO319 := n0_; have BK316 := n1_; have HB := n2_; clear n0_ n1_ n2_; clear hb ho9; obtain ⟨Ao10, co10, eo10⟩ := Kd.R_slice HO319.out; subst eo10)))
 go_loopg [34] k (fun kq v34 w' => ∃ (x34_1 : Int), v34 = .int .i64 x34_1 ∧ Aside0 (hinterlandref14_Speed.l0 kq a1 a2 a3 a4 y317 (y317.length : Int) x34_1 a0_0 a0_1 a0_2 a0_3 a0_4 a0_5 a0_6 a0_7 = some (r1, r2)) ∧ Aside0 (kq ≤ k) ∧ Aside0 (Kd.R (Kd.int .i64) 3 w' w.heap.size (fun _ => True) (.slice Ao10 y317.length co10) y317) ∧ Aside0 (w'.heap[gb316]? = some (.cells #[.int .i64 a0_0, .int .i64 a0_1, .int .i64 a0_2, .int .i64 a0_3, .int .i64 a0_4, .int .i64 a0_5, .int .i64 a0_6, .bool a0_7] 33 (0, 0))) ∧ Aside0 (Below w.heap.size w w'))
 case atStart => exact ⟨(0), (by first | rfl | (simp; done) | (simp [*]; done) | (refine congrArg (Value.int .i64) ?_; unfold wrap64; omega) | (simp only [shl_one_small _ (by assumption) (by omega)]; done) | (simp [*]; rw [shl_one_small _ (by assumption) (by omega)]; done)), H', ⟨Nat.le_refl _⟩, ⟨by (with_reducible repeat (first | apply Kd.R_alloc | apply Kd.R_drewN | apply Kd.R_drew)); exact HO319.out⟩, ⟨by (with_reducible repeat (first | refine blk_drewN ?_ _ | refine blk_drew ?_ | refine blk_alloc ?_ _)); exact BK316.out⟩, ⟨by repeat (first | (with_reducible first | exact HB.out | apply below_alloc | apply pw_below_drewN | apply below_drew1 | refine below_set ?_ GE316.out) | exact HB.out)⟩⟩
 case round =>
  clear H'
  try clear hcz7_0
  try clear hcz7_1
  try clear hcz7_2
  try clear hcz7_3
  try clear hcz7_4
  try clear hcz7_5
  try clear hcz7_6
  try clear hcz7_7
  try clear hfz7_0
  try clear hfz7_1
  try clear hfz7_2
  try clear hfz7_3
  try clear hfz7_4
  try clear hfz7_5
  try clear hfz7_6
  try clear hfz7_7
  obtain ⟨x34_1, rfl, HA, HK1, HO_32, BK316, HB⟩ := hrel
  cases gk with
  | zero => exact absurd HA.out (by simp [hinterlandref14_Speed.l0])
  | succ k1 =>
   have H := HA.out
   clear HA
   simp only [hinterlandref14_Speed.l0] at H
   by_cases c11 : x34_1 < (y317.length : Int)
   ·rw [if_pos c11] at H
    have c11b0 : decide (x34_1 < (y317.length : Int)) = true := decide_eq_true c11
    clear c11
    by_cases c12 : 0 ≤ x34_1
    ·rw [if_pos c12] at H
     have c12b0 : decide (0 ≤ x34_1) = true := decide_eq_true c12
     clear c12
     by_cases c13 : x34_1 < (y317.length : Int)
     ·rw [if_pos c13] at H
      have c13b0 : decide (x34_1 < (y317.length : Int)) = true := decide_eq_true c13
      clear c13
      have HC14 := Aside0.mk H
      clear H
      have p320 : 0 ≤ (x34_1 : Int) := of_decide_eq_true (by first | (with_reducible assumption) | assumption)
      have q320 : x34_1 < (y317.length : Int) := of_decide_eq_true (by first | (with_reducible assumption) | assumption)
      obtain ⟨ad320, e320, hx320_0⟩ := Kd.at_int (Kd.R_reads' HO_32.out).2.2 x34_1 p320 q320
      cases e320
      replace p320 := eq_true p320
      replace q320 := eq_true q320
      go_upto_region 4 with (fail)
      repeat (go_quiet (fail); go_upto_region 4 with (fail))
      go_cut [43] (fun v43 wc => ∃ (kq : Nat) (x43_13 : Bool), v43 = .bool x43_13 ∧ Aside0 (hinterlandref14_Speed.j1 kq a1 a2 a3 a4 y317 (y317.length : Int) x34_1 x43_13 a0_0 a0_1 a0_2 a0_3 a0_4 a0_5 a0_6 a0_7 = some (r1, r2)) ∧ Aside0 (kq ≤ k1) ∧ Aside0 (Kd.R (Kd.int .i64) 3 wc w.heap.size (fun _ => True) (.slice (some ad320) y317.length co10) y317) ∧ Aside0 (wc.heap[gb316]? = some (.cells #[.int .i64 a0_0, .int .i64 a0_1, .int .i64 a0_2, .int .i64 a0_3, .int .i64 a0_4, .int .i64 a0_5, .int .i64 a0_6, .bool a0_7] 33 (0, 0))) ∧ Aside0 (Below w.heap.size w wc))
      case first =>
       have H := HC14.out
       clear HC14
       by_cases c15 : (rd y317 x34_1) < 0
       ·rw [if_pos c15] at H
        have c15b0 : decide ((rd y317 x34_1) < 0) = true := decide_eq_true c15
        clear c15
        (first | rw [c15b0] | (simp only [i64_w, i32_w]; rw [c15b0]) | skip)
        have H' := Aside0.mk H
        clear H
        go_wp2
        repeat (go_quiet (fail); try go_wp2)
        go_meet
        case rel => exact ⟨_, (true), (by first | rfl | (simp; done) | (simp [*]; done) | (refine congrArg (Value.int .i64) ?_; unfold wrap64; omega) | (simp only [shl_one_small _ (by assumption) (by omega)]; done) | (simp [*]; rw [shl_one_small _ (by assumption) (by omega)]; done)), H', ⟨by have := HK1.out; first | omega | exact Nat.le_refl _⟩, ⟨by (with_reducible repeat (first | apply Kd.R_alloc | apply Kd.R_drewN | apply Kd.R_drew)); exact HO_32.out⟩, ⟨by (with_reducible repeat (first | refine blk_drewN ?_ _ | refine blk_drew ?_ | refine blk_alloc ?_ _)); exact BK316.out⟩, ⟨by repeat (first | (with_reducible first | exact HB.out | apply below_alloc | apply pw_below_drewN | apply below_drew1 | refine below_set ?_ GE316.out) | exact HB.out)⟩⟩
       ·rw [if_neg c15] at H
        have c15b0 : decide ((rd y317 x34_1) < 0) = false := decide_eq_false c15
        clear c15
        (first | rw [c15b0] | (simp only [i64_w, i32_w]; rw [c15b0]) | skip)
        have H' := Aside0.mk H
        clear H
        go_wp2
        repeat (go_quiet (fail); try go_wp2)
        go_meet
        case rel => exact ⟨_, (decide ((rd y317 x34_1) > 1000000000)), (by first | rfl | (simp; done) | (simp [*]; done) | (refine congrArg (Value.int .i64) ?_; unfold wrap64; omega) | (simp only [shl_one_small _ (by assumption) (by omega)]; done) | (simp [*]; rw [shl_one_small _ (by assumption) (by omega)]; done)), H', ⟨by have := HK1.out; first | omega | exact Nat.le_refl _⟩, ⟨by (with_reducible repeat (first | apply Kd.R_alloc | apply Kd.R_drewN | apply Kd.R_drew)); exact HO_32.out⟩, ⟨by (with_reducible repeat (first | refine blk_drewN ?_ _ | refine blk_drew ?_ | refine blk_alloc ?_ _)); exact BK316.out⟩, ⟨by repeat (first | (with_reducible first | exact HB.out | apply below_alloc | apply pw_below_drewN | apply below_drew1 | refine below_set ?_ GE316.out) | exact HB.out)⟩⟩
      case rest =>
       clear HC14
       try clear c11
       try clear c11b0
       try clear c12
       try clear c12b0
       try clear c13
       try clear c13b0
       try clear c15
       try clear hcz7_0
       try clear hcz7_1
       try clear hcz7_2
       try clear hcz7_3
       try clear hcz7_4
       try clear hcz7_5
       try clear hcz7_6
       try clear hcz7_7
       try clear hfz7_0
       try clear hfz7_1
       try clear hfz7_2
       try clear hfz7_3
       try clear hfz7_4
       try clear hfz7_5
       try clear hfz7_6
       try clear hfz7_7
       try clear hx320_0
       try clear p320
       try clear q320
       obtain ⟨kq, x43_13, rfl, HA, HJ13, HO_32, BK316, HB⟩ := hcut
       cases kq with
       | zero => exact absurd HA.out (by simp [hinterlandref14_Speed.j1])
       | succ kj13 =>
        have H := HA.out
        clear HA
        simp only [hinterlandref14_Speed.j1] at H
        by_cases c16 : x43_13 = true
        ·subst c16
         have H1 : (some (0, 1)) = some (r1, r2) := by rw [if_pos rfl] at H; exact H
         clear H
         have H := H1
         clear H1
         simp only [Option.some.injEq, Prod.mk.injEq] at H
         obtain ⟨rfl, rfl⟩ := H
         go_wp2
         repeat (go_quiet (fail); try go_wp2)
         go_ret2
         exact ⟨by first | rfl | (simp [errW_none, errW_some] <;> rfl) | (simp [*, errW_none, errW_some] <;> rfl), by repeat (first | (with_reducible first | exact HB.out | apply below_alloc | apply pw_below_drewN | apply below_drew1 | refine below_set ?_ GE316.out) | exact HB.out)⟩
        ·replace c16 := Bool.eq_false_iff.mpr c16
         subst c16
         have H1 : (hinterlandref14_Speed.l0 kj13 a1 a2 a3 a4 y317 (y317.length : Int) (wrap64 (x34_1 + 1)) a0_0 a0_1 a0_2 a0_3 a0_4 a0_5 a0_6 a0_7) = some (r1, r2) := by rw [if_neg (show ¬ (false = true) by decide)] at H; exact H
         clear H
         have H := H1
         clear H1
         have H' := Aside0.mk H
         clear H
         go_wp2
         repeat (go_quiet (fail); try go_wp2)
         go_roundg kj13
         case measure => have := HK1.out; have := HJ13.out; omega
         case rel => exact ⟨(wrap64 (x34_1 + 1)), (by first | rfl | (simp; done) | (simp [*]; done) | (refine congrArg (Value.int .i64) ?_; unfold wrap64; omega) | (simp only [shl_one_small _ (by assumption) (by omega)]; done) | (simp [*]; rw [shl_one_small _ (by assumption) (by omega)]; done)), H', ⟨by have := HK1.out; have := HJ13.out; omega⟩, ⟨by (with_reducible repeat (first | apply Kd.R_alloc | apply Kd.R_drewN | apply Kd.R_drew)); exact HO_32.out⟩, ⟨by (with_reducible repeat (first | refine blk_drewN ?_ _ | refine blk_drew ?_ | refine blk_alloc ?_ _)); exact BK316.out⟩, ⟨by repeat (first | (with_reducible first | exact HB.out | apply below_alloc | apply pw_below_drewN | apply below_drew1 | refine below_set ?_ GE316.out) | exact HB.out)⟩⟩
     ·rw [if_neg c13] at H
      exact absurd H (by simp)
    ·rw [if_neg c12] at H
     exact absurd H (by simp)
   ·rw [if_neg c11] at H
    have c11b0 : decide (x34_1 < (y317.length : Int)) = false := decide_eq_false c11
    clear c11
    have HC17 := Aside0.mk H
    clear H
    go_upto_region 7 with (fail)
    repeat (go_quiet (fail); go_upto_region 7 with (fail))
    go_cut [67] (fun v67 wc => ∃ (kq : Nat) (x67_16 : Bool), v67 = .bool x67_16 ∧ Aside0 (hinterlandref14_Speed.j2 kq a1 a2 a3 a4 x67_16 a0_0 a0_1 a0_2 a0_3 a0_4 a0_5 a0_6 a0_7 = some (r1, r2)) ∧ Aside0 (kq ≤ k1) ∧ Aside0 (wc.heap[gb316]? = some (.cells #[.int .i64 a0_0, .int .i64 a0_1, .int .i64 a0_2, .int .i64 a0_3, .int .i64 a0_4, .int .i64 a0_5, .int .i64 a0_6, .bool a0_7] 33 (0, 0))) ∧ Aside0 (Below w.heap.size w wc))
    case first =>
     have H := HC17.out
     clear HC17
     by_cases c18 : a0_2 > 1000000000
     ·rw [if_pos c18] at H
      have c18b0 : decide (1000000000 < a0_2) = true := decide_eq_true c18
      clear c18
      (first | rw [c18b0] | (simp only [i64_w, i32_w]; rw [c18b0]) | skip)
      have H' := Aside0.mk H
      clear H
      have hcz19_0 : wr.cell? ⟨gb316, 0, none⟩ = some (.int .i64 a0_0) := (blk_cell BK316.out 0).trans rfl
      have hcz19_1 : wr.cell? ⟨gb316, 1, none⟩ = some (.int .i64 a0_1) := (blk_cell BK316.out 1).trans rfl
      have hcz19_2 : wr.cell? ⟨gb316, 2, none⟩ = some (.int .i64 a0_2) := (blk_cell BK316.out 2).trans rfl
      have hcz19_3 : wr.cell? ⟨gb316, 3, none⟩ = some (.int .i64 a0_3) := (blk_cell BK316.out 3).trans rfl
      have hcz19_4 : wr.cell? ⟨gb316, 4, none⟩ = some (.int .i64 a0_4) := (blk_cell BK316.out 4).trans rfl
      have hcz19_5 : wr.cell? ⟨gb316, 5, none⟩ = some (.int .i64 a0_5) := (blk_cell BK316.out 5).trans rfl
      have hcz19_6 : wr.cell? ⟨gb316, 6, none⟩ = some (.int .i64 a0_6) := (blk_cell BK316.out 6).trans rfl
      have hcz19_7 : wr.cell? ⟨gb316, 7, none⟩ = some (.bool a0_7) := (blk_cell BK316.out 7).trans rfl
      have hfz19_0 := blk_frozen BK316.out 0
      have hfz19_1 := blk_frozen BK316.out 1
      have hfz19_2 := blk_frozen BK316.out 2
      have hfz19_3 := blk_frozen BK316.out 3
      have hfz19_4 := blk_frozen BK316.out 4
      have hfz19_5 := blk_frozen BK316.out 5
      have hfz19_6 := blk_frozen BK316.out 6
      have hfz19_7 := blk_frozen BK316.out 7
      go_wp2
      repeat (go_quiet (fail); try go_wp2)
      go_meet
      case rel => exact ⟨_, (true), (by first | rfl | (simp; done) | (simp [*]; done) | (refine congrArg (Value.int .i64) ?_; unfold wrap64; omega) | (simp only [shl_one_small _ (by assumption) (by omega)]; done) | (simp [*]; rw [shl_one_small _ (by assumption) (by omega)]; done)), H', ⟨by have := HK1.out; first | omega | exact Nat.le_refl _⟩, ⟨by (with_reducible repeat (first | refine blk_drewN ?_ _ | refine blk_drew ?_ | refine blk_alloc ?_ _)); exact BK316.out⟩, ⟨by repeat (first | (with_reducible first | exact HB.out | apply below_alloc | apply pw_below_drewN | apply below_drew1 | refine below_set ?_ GE316.out) | exact HB.out)⟩⟩
     ·rw [if_neg c18] at H
      have c18b0 : decide (1000000000 < a0_2) = false := decide_eq_false c18
      clear c18
      (first | rw [c18b0] | (simp only [i64_w, i32_w]; rw [c18b0]) | skip)
      replace H := Option.bind_eq_some_iff.mp H
      obtain ⟨t321, A200, H⟩ := H
      replace H : (if t321 = true then ((hinterlandref14_within.f a2 0 600).bind fun t322 => (if t322 = true then ((hinterlandref14_within.f a3 0 600).bind fun t323 => (if t323 = true then ((hinterlandref14_within.f a4 (-1) 1).bind fun t324 => (hinterlandref14_Speed.j2 k1 a1 a2 a3 a4 (!t324) a0_0 a0_1 a0_2 a0_3 a0_4 a0_5 a0_6 a0_7)) else (hinterlandref14_Speed.j2 k1 a1 a2 a3 a4 true a0_0 a0_1 a0_2 a0_3 a0_4 a0_5 a0_6 a0_7))) else (hinterlandref14_Speed.j2 k1 a1 a2 a3 a4 true a0_0 a0_1 a0_2 a0_3 a0_4 a0_5 a0_6 a0_7))) else (hinterlandref14_Speed.j2 k1 a1 a2 a3 a4 true a0_0 a0_1 a0_2 a0_3 a0_4 a0_5 a0_6 a0_7)) = some (r1, r2) := H
      have A20 := Aside0.mk A200
      clear A200
      by_cases c21 : t321 = true
      ·subst c21
       have H1 : ((hinterlandref14_within.f a2 0 600).bind fun t322 => (if t322 = true then ((hinterlandref14_within.f a3 0 600).bind fun t323 => (if t323 = true then ((hinterlandref14_within.f a4 (-1) 1).bind fun t324 => (hinterlandref14_Speed.j2 k1 a1 a2 a3 a4 (!t324) a0_0 a0_1 a0_2 a0_3 a0_4 a0_5 a0_6 a0_7)) else (hinterlandref14_Speed.j2 k1 a1 a2 a3 a4 true a0_0 a0_1 a0_2 a0_3 a0_4 a0_5 a0_6 a0_7))) else (hinterlandref14_Speed.j2 k1 a1 a2 a3 a4 true a0_0 a0_1 a0_2 a0_3 a0_4 a0_5 a0_6 a0_7))) = some (r1, r2) := by rw [if_pos rfl] at H; exact H
       clear H
       have H := H1
       clear H1
       replace H := Option.bind_eq_some_iff.mp H
       obtain ⟨t322, A220, H⟩ := H
       replace H : (if t322 = true then ((hinterlandref14_within.f a3 0 600).bind fun t323 => (if t323 = true then ((hinterlandref14_within.f a4 (-1) 1).bind fun t324 => (hinterlandref14_Speed.j2 k1 a1 a2 a3 a4 (!t324) a0_0 a0_1 a0_2 a0_3 a0_4 a0_5 a0_6 a0_7)) else (hinterlandref14_Speed.j2 k1 a1 a2 a3 a4 true a0_0 a0_1 a0_2 a0_3 a0_4 a0_5 a0_6 a0_7))) else (hinterlandref14_Speed.j2 k1 a1 a2 a3 a4 true a0_0 a0_1 a0_2 a0_3 a0_4 a0_5 a0_6 a0_7)) = some (r1, r2) := H
       have A22 := Aside0.mk A220
       clear A220
       by_cases c23 : t322 = true
       ·subst c23
        have H1 : ((hinterlandref14_within.f a3 0 600).bind fun t323 => (if t323 = true then ((hinterlandref14_within.f a4 (-1) 1).bind fun t324 => (hinterlandref14_Speed.j2 k1 a1 a2 a3 a4 (!t324) a0_0 a0_1 a0_2 a0_3 a0_4 a0_5 a0_6 a0_7)) else (hinterlandref14_Speed.j2 k1 a1 a2 a3 a4 true a0_0 a0_1 a0_2 a0_3 a0_4 a0_5 a0_6 a0_7))) = some (r1, r2) := by rw [if_pos rfl] at H; exact H
        clear H
        have H := H1
        clear H1
        replace H := Option.bind_eq_some_iff.mp H
        obtain ⟨t323, A240, H⟩ := H
        replace H : (if t323 = true then ((hinterlandref14_within.f a4 (-1) 1).bind fun t324 => (hinterlandref14_Speed.j2 k1 a1 a2 a3 a4 (!t324) a0_0 a0_1 a0_2 a0_3 a0_4 a0_5 a0_6 a0_7)) else (hinterlandref14_Speed.j2 k1 a1 a2 a3 a4 true a0_0 a0_1 a0_2 a0_3 a0_4 a0_5 a0_6 a0_7)) = some (r1, r2) := H
        have A24 := Aside0.mk A240
        clear A240
        by_cases c25 : t323 = true
        ·subst c25
         have H1 : ((hinterlandref14_within.f a4 (-1) 1).bind fun t324 => (hinterlandref14_Speed.j2 k1 a1 a2 a3 a4 (!t324) a0_0 a0_1 a0_2 a0_3 a0_4 a0_5 a0_6 a0_7)) = some (r1, r2) := by rw [if_pos rfl] at H; exact H
         clear H
         have H := H1
         clear H1
         replace H := Option.bind_eq_some_iff.mp H
         obtain ⟨t324, A260, H⟩ := H
         replace H : (hinterlandref14_Speed.j2 k1 a1 a2 a3 a4 (!t324) a0_0 a0_1 a0_2 a0_3 a0_4 a0_5 a0_6 a0_7) = some (r1, r2) := H
         have A26 := Aside0.mk A260
         clear A260
         have H' := Aside0.mk H
         clear H
         have hcz27_0 : wr.cell? ⟨gb316, 0, none⟩ = some (.int .i64 a0_0) := (blk_cell BK316.out 0).trans rfl
         have hcz27_1 : wr.cell? ⟨gb316, 1, none⟩ = some (.int .i64 a0_1) := (blk_cell BK316.out 1).trans rfl
         have hcz27_2 : wr.cell? ⟨gb316, 2, none⟩ = some (.int .i64 a0_2) := (blk_cell BK316.out 2).trans rfl
         have hcz27_3 : wr.cell? ⟨gb316, 3, none⟩ = some (.int .i64 a0_3) := (blk_cell BK316.out 3).trans rfl
         have hcz27_4 : wr.cell? ⟨gb316, 4, none⟩ = some (.int .i64 a0_4) := (blk_cell BK316.out 4).trans rfl
         have hcz27_5 : wr.cell? ⟨gb316, 5, none⟩ = some (.int .i64 a0_5) := (blk_cell BK316.out 5).trans rfl
         have hcz27_6 : wr.cell? ⟨gb316, 6, none⟩ = some (.int .i64 a0_6) := (blk_cell BK316.out 6).trans rfl
         have hcz27_7 : wr.cell? ⟨gb316, 7, none⟩ = some (.bool a0_7) := (blk_cell BK316.out 7).trans rfl
         have hfz27_0 := blk_frozen BK316.out 0
         have hfz27_1 := blk_frozen BK316.out 1
         have hfz27_2 := blk_frozen BK316.out 2
         have hfz27_3 := blk_frozen BK316.out 3
         have hfz27_4 := blk_frozen BK316.out 4
         have hfz27_5 := blk_frozen BK316.out 5
         have hfz27_6 := blk_frozen BK316.out 6
         have hfz27_7 := blk_frozen BK316.out 7
         go_wp2_with (first | (go_at_call 42; (with_reducible refine (hinterlandref14_within.calls a1 0 1000000 true _ A20.out).mono ?_); rintro e w' ⟨rfl, ⟨nd, rfl⟩⟩; (try first | exact ⟨rfl, _, World.drewN_drewN _ _ _⟩ | exact ⟨rfl, _, Eq.trans (World.drewN_drewN _ _ _) (congrArg (World.drewN _) (Nat.add_assoc _ _ _))⟩)) | (go_at_call 42; (with_reducible refine (hinterlandref14_within.calls a2 0 600 true _ A22.out).mono ?_); rintro e w' ⟨rfl, ⟨nd, rfl⟩⟩; (try first | exact ⟨rfl, _, World.drewN_drewN _ _ _⟩ | exact ⟨rfl, _, Eq.trans (World.drewN_drewN _ _ _) (congrArg (World.drewN _) (Nat.add_assoc _ _ _))⟩)) | (go_at_call 42; (with_reducible refine (hinterlandref14_within.calls a3 0 600 true _ A24.out).mono ?_); rintro e w' ⟨rfl, ⟨nd, rfl⟩⟩; (try first | exact ⟨rfl, _, World.drewN_drewN _ _ _⟩ | exact ⟨rfl, _, Eq.trans (World.drewN_drewN _ _ _) (congrArg (World.drewN _) (Nat.add_assoc _ _ _))⟩)) | (go_at_call 42; (with_reducible refine (hinterlandref14_within.calls a4 (-1) 1 t324 _ A26.out).mono ?_); rintro e w' ⟨rfl, ⟨nd, rfl⟩⟩; (try first | exact ⟨rfl, _, World.drewN_drewN _ _ _⟩ | exact ⟨rfl, _, Eq.trans (World.drewN_drewN _ _ _) (congrArg (World.drewN _) (Nat.add_assoc _ _ _))⟩)))
         repeat (go_quiet (first | (go_at_call 42; (with_reducible refine (hinterlandref14_within.calls a1 0 1000000 true _ A20.out).mono ?_); rintro e w' ⟨rfl, ⟨nd, rfl⟩⟩; (try first | exact ⟨rfl, _, World.drewN_drewN _ _ _⟩ | exact ⟨rfl, _, Eq.trans (World.drewN_drewN _ _ _) (congrArg (World.drewN _) (Nat.add_assoc _ _ _))⟩)) | (go_at_call 42; (with_reducible refine (hinterlandref14_within.calls a2 0 600 true _ A22.out).mono ?_); rintro e w' ⟨rfl, ⟨nd, rfl⟩⟩; (try first | exact ⟨rfl, _, World.drewN_drewN _ _ _⟩ | exact ⟨rfl, _, Eq.trans (World.drewN_drewN _ _ _) (congrArg (World.drewN _) (Nat.add_assoc _ _ _))⟩)) | (go_at_call 42; (with_reducible refine (hinterlandref14_within.calls a3 0 600 true _ A24.out).mono ?_); rintro e w' ⟨rfl, ⟨nd, rfl⟩⟩; (try first | exact ⟨rfl, _, World.drewN_drewN _ _ _⟩ | exact ⟨rfl, _, Eq.trans (World.drewN_drewN _ _ _) (congrArg (World.drewN _) (Nat.add_assoc _ _ _))⟩)) | (go_at_call 42; (with_reducible refine (hinterlandref14_within.calls a4 (-1) 1 t324 _ A26.out).mono ?_); rintro e w' ⟨rfl, ⟨nd, rfl⟩⟩; (try first | exact ⟨rfl, _, World.drewN_drewN _ _ _⟩ | exact ⟨rfl, _, Eq.trans (World.drewN_drewN _ _ _) (congrArg (World.drewN _) (Nat.add_assoc _ _ _))⟩))); try go_wp2_with (first | (go_at_call 42; (with_reducible refine (hinterlandref14_within.calls a1 0 1000000 true _ A20.out).mono ?_); rintro e w' ⟨rfl, ⟨nd, rfl⟩⟩; (try first | exact ⟨rfl, _, World.drewN_drewN _ _ _⟩ | exact ⟨rfl, _, Eq.trans (World.drewN_drewN _ _ _) (congrArg (World.drewN _) (Nat.add_assoc _ _ _))⟩)) | (go_at_call 42; (with_reducible refine (hinterlandref14_within.calls a2 0 600 true _ A22.out).mono ?_); rintro e w' ⟨rfl, ⟨nd, rfl⟩⟩; (try first | exact ⟨rfl, _, World.drewN_drewN _ _ _⟩ | exact ⟨rfl, _, Eq.trans (World.drewN_drewN _ _ _) (congrArg (World.drewN _) (Nat.add_assoc _ _ _))⟩)) | (go_at_call 42; (with_reducible refine (hinterlandref14_within.calls a3 0 600 true _ A24.out).mono ?_); rintro e w' ⟨rfl, ⟨nd, rfl⟩⟩; (try first | exact ⟨rfl, _, World.drewN_drewN _ _ _⟩ | exact ⟨rfl, _, Eq.trans (World.drewN_drewN _ _ _) (congrArg (World.drewN _) (Nat.add_assoc _ _ _))⟩)) | (go_at_call 42; (with_reducible refine (hinterlandref14_within.calls a4 (-1) 1 t324 _ A26.out).mono ?_); rintro e w' ⟨rfl, ⟨nd, rfl⟩⟩; (try first | exact ⟨rfl, _, World.drewN_drewN _ _ _⟩ | exact ⟨rfl, _, Eq.trans (World.drewN_drewN _ _ _) (congrArg (World.drewN _) (Nat.add_assoc _ _ _))⟩))))
         go_meet
         case rel => exact ⟨_, (!t324), (by first | rfl | (simp; done) | (simp [*]; done) | (refine congrArg (Value.int .i64) ?_; unfold wrap64; omega) | (simp only [shl_one_small _ (by assumption) (by omega)]; done) | (simp [*]; rw [shl_one_small _ (by assumption) (by omega)]; done)), H', ⟨by have := HK1.out; first | omega | exact Nat.le_refl _⟩, ⟨by (with_reducible repeat (first | refine blk_drewN ?_ _ | refine blk_drew ?_ | refine blk_alloc ?_ _)); exact BK316.out⟩, ⟨by repeat (first | (with_reducible first | exact HB.out | apply below_alloc | apply pw_below_drewN | apply below_drew1 | refine below_set ?_ GE316.out) | exact HB.out)⟩⟩
        ·replace c25 := Bool.eq_false_iff.mpr c25
         subst c25
         have H1 : (hinterlandref14_Speed.j2 k1 a1 a2 a3 a4 true a0_0 a0_1 a0_2 a0_3 a0_4 a0_5 a0_6 a0_7) = some (r1, r2) := by rw [if_neg (show ¬ (false = true) by decide)] at H; exact H
         clear H
         have H := H1
         clear H1
         have H' := Aside0.mk H
         clear H
         have hcz28_0 : wr.cell? ⟨gb316, 0, none⟩ = some (.int .i64 a0_0) := (blk_cell BK316.out 0).trans rfl
         have hcz28_1 : wr.cell? ⟨gb316, 1, none⟩ = some (.int .i64 a0_1) := (blk_cell BK316.out 1).trans rfl
         have hcz28_2 : wr.cell? ⟨gb316, 2, none⟩ = some (.int .i64 a0_2) := (blk_cell BK316.out 2).trans rfl
         have hcz28_3 : wr.cell? ⟨gb316, 3, none⟩ = some (.int .i64 a0_3) := (blk_cell BK316.out 3).trans rfl
         have hcz28_4 : wr.cell? ⟨gb316, 4, none⟩ = some (.int .i64 a0_4) := (blk_cell BK316.out 4).trans rfl
         have hcz28_5 : wr.cell? ⟨gb316, 5, none⟩ = some (.int .i64 a0_5) := (blk_cell BK316.out 5).trans rfl
         have hcz28_6 : wr.cell? ⟨gb316, 6, none⟩ = some (.int .i64 a0_6) := (blk_cell BK316.out 6).trans rfl
         have hcz28_7 : wr.cell? ⟨gb316, 7, none⟩ = some (.bool a0_7) := (blk_cell BK316.out 7).trans rfl
         have hfz28_0 := blk_frozen BK316.out 0
         have hfz28_1 := blk_frozen BK316.out 1
         have hfz28_2 := blk_frozen BK316.out 2
         have hfz28_3 := blk_frozen BK316.out 3
         have hfz28_4 := blk_frozen BK316.out 4
         have hfz28_5 := blk_frozen BK316.out 5
         have hfz28_6 := blk_frozen BK316.out 6
         have hfz28_7 := blk_frozen BK316.out 7
         go_wp2_with (first | (go_at_call 42; (with_reducible refine (hinterlandref14_within.calls a1 0 1000000 true _ A20.out).mono ?_); rintro e w' ⟨rfl, ⟨nd, rfl⟩⟩; (try first | exact ⟨rfl, _, World.drewN_drewN _ _ _⟩ | exact ⟨rfl, _, Eq.trans (World.drewN_drewN _ _ _) (congrArg (World.drewN _) (Nat.add_assoc _ _ _))⟩)) | (go_at_call 42; (with_reducible refine (hinterlandref14_within.calls a2 0 600 true _ A22.out).mono ?_); rintro e w' ⟨rfl, ⟨nd, rfl⟩⟩; (try first | exact ⟨rfl, _, World.drewN_drewN _ _ _⟩ | exact ⟨rfl, _, Eq.trans (World.drewN_drewN _ _ _) (congrArg (World.drewN _) (Nat.add_assoc _ _ _))⟩)) | (go_at_call 42; (with_reducible refine (hinterlandref14_within.calls a3 0 600 false _ A24.out).mono ?_); rintro e w' ⟨rfl, ⟨nd, rfl⟩⟩; (try first | exact ⟨rfl, _, World.drewN_drewN _ _ _⟩ | exact ⟨rfl, _, Eq.trans (World.drewN_drewN _ _ _) (congrArg (World.drewN _) (Nat.add_assoc _ _ _))⟩)))
         repeat (go_quiet (first | (go_at_call 42; (with_reducible refine (hinterlandref14_within.calls a1 0 1000000 true _ A20.out).mono ?_); rintro e w' ⟨rfl, ⟨nd, rfl⟩⟩; (try first | exact ⟨rfl, _, World.drewN_drewN _ _ _⟩ | exact ⟨rfl, _, Eq.trans (World.drewN_drewN _ _ _) (congrArg (World.drewN _) (Nat.add_assoc _ _ _))⟩)) | (go_at_call 42; (with_reducible refine (hinterlandref14_within.calls a2 0 600 true _ A22.out).mono ?_); rintro e w' ⟨rfl, ⟨nd, rfl⟩⟩; (try first | exact ⟨rfl, _, World.drewN_drewN _ _ _⟩ | exact ⟨rfl, _, Eq.trans (World.drewN_drewN _ _ _) (congrArg (World.drewN _) (Nat.add_assoc _ _ _))⟩)) | (go_at_call 42; (with_reducible refine (hinterlandref14_within.calls a3 0 600 false _ A24.out).mono ?_); rintro e w' ⟨rfl, ⟨nd, rfl⟩⟩; (try first | exact ⟨rfl, _, World.drewN_drewN _ _ _⟩ | exact ⟨rfl, _, Eq.trans (World.drewN_drewN _ _ _) (congrArg (World.drewN _) (Nat.add_assoc _ _ _))⟩))); try go_wp2_with (first | (go_at_call 42; (with_reducible refine (hinterlandref14_within.calls a1 0 1000000 true _ A20.out).mono ?_); rintro e w' ⟨rfl, ⟨nd, rfl⟩⟩; (try first | exact ⟨rfl, _, World.drewN_drewN _ _ _⟩ | exact ⟨rfl, _, Eq.trans (World.drewN_drewN _ _ _) (congrArg (World.drewN _) (Nat.add_assoc _ _ _))⟩)) | (go_at_call 42; (with_reducible refine (hinterlandref14_within.calls a2 0 600 true _ A22.out).mono ?_); rintro e w' ⟨rfl, ⟨nd, rfl⟩⟩; (try first | exact ⟨rfl, _, World.drewN_drewN _ _ _⟩ | exact ⟨rfl, _, Eq.trans (World.drewN_drewN _ _ _) (congrArg (World.drewN _) (Nat.add_assoc _ _ _))⟩)) | (go_at_call 42; (with_reducible refine (hinterlandref14_within.calls a3 0 600 false _ A24.out).mono ?_); rintro e w' ⟨rfl, ⟨nd, rfl⟩⟩; (try first | exact ⟨rfl, _, World.drewN_drewN _ _ _⟩ | exact ⟨rfl, _, Eq.trans (World.drewN_drewN _ _ _) (congrArg (World.drewN _) (Nat.add_assoc _ _ _))⟩))))
         go_meet
         case rel => exact ⟨_, (true), (by first | rfl | (simp; done) | (simp [*]; done) | (refine congrArg (Value.int .i64) ?_; unfold wrap64; omega) | (simp only [shl_one_small _ (by assumption) (by omega)]; done) | (simp [*]; rw [shl_one_small _ (by assumption) (by omega)]; done)), H', ⟨by have := HK1.out; first | omega | exact Nat.le_refl _⟩, ⟨by (with_reducible repeat (first | refine blk_drewN ?_ _ | refine blk_drew ?_ | refine blk_alloc ?_ _)); exact BK316.out⟩, ⟨by repeat (first | (with_reducible first | exact HB.out | apply below_alloc | apply pw_below_drewN | apply below_drew1 | refine below_set ?_ GE316.out) | exact HB.out)⟩⟩
       ·replace c23 := Bool.eq_false_iff.mpr c23
        subst c23
        have H1 : (hinterlandref14_Speed.j2 k1 a1 a2 a3 a4 true a0_0 a0_1 a0_2 a0_3 a0_4 a0_5 a0_6 a0_7) = some (r1, r2) := by rw [if_neg (show ¬ (false = true) by decide)] at H; exact H
        clear H
        have H := H1
        clear H1
        have H' := Aside0.mk H
        clear H
        have hcz29_0 : wr.cell? ⟨gb316, 0, none⟩ = some (.int .i64 a0_0) := (blk_cell BK316.out 0).trans rfl
        have hcz29_1 : wr.cell? ⟨gb316, 1, none⟩ = some (.int .i64 a0_1) := (blk_cell BK316.out 1).trans rfl
        have hcz29_2 : wr.cell? ⟨gb316, 2, none⟩ = some (.int .i64 a0_2) := (blk_cell BK316.out 2).trans rfl
        have hcz29_3 : wr.cell? ⟨gb316, 3, none⟩ = some (.int .i64 a0_3) := (blk_cell BK316.out 3).trans rfl
        have hcz29_4 : wr.cell? ⟨gb316, 4, none⟩ = some (.int .i64 a0_4) := (blk_cell BK316.out 4).trans rfl
        have hcz29_5 : wr.cell? ⟨gb316, 5, none⟩ = some (.int .i64 a0_5) := (blk_cell BK316.out 5).trans rfl
        have hcz29_6 : wr.cell? ⟨gb316, 6, none⟩ = some (.int .i64 a0_6) := (blk_cell BK316.out 6).trans rfl
        have hcz29_7 : wr.cell? ⟨gb316, 7, none⟩ = some (.bool a0_7) := (blk_cell BK316.out 7).trans rfl
        have hfz29_0 := blk_frozen BK316.out 0
        have hfz29_1 := blk_frozen BK316.out 1
        have hfz29_2 := blk_frozen BK316.out 2
        have hfz29_3 := blk_frozen BK316.out 3
        have hfz29_4 := blk_frozen BK316.out 4
        have hfz29_5 := blk_frozen BK316.out 5
        have hfz29_6 := blk_frozen BK316.out 6
        have hfz29_7 := blk_frozen BK316.out 7
        go_wp2_with (first | (go_at_call 42; (with_reducible refine (hinterlandref14_within.calls a1 0 1000000 true _ A20.out).mono ?_); rintro e w' ⟨rfl, ⟨nd, rfl⟩⟩; (try first | exact ⟨rfl, _, World.drewN_drewN _ _ _⟩ | exact ⟨rfl, _, Eq.trans (World.drewN_drewN _ _ _) (congrArg (World.drewN _) (Nat.add_assoc _ _ _))⟩)) | (go_at_call 42; (with_reducible refine (hinterlandref14_within.calls a2 0 600 false _ A22.out).mono ?_); rintro e w' ⟨rfl, ⟨nd, rfl⟩⟩; (try first | exact ⟨rfl, _, World.drewN_drewN _ _ _⟩ | exact ⟨rfl, _, Eq.trans (World.drewN_drewN _ _ _) (congrArg (World.drewN _) (Nat.add_assoc _ _ _))⟩)))
        repeat (go_quiet (first | (go_at_call 42; (with_reducible refine (hinterlandref14_within.calls a1 0 1000000 true _ A20.out).mono ?_); rintro e w' ⟨rfl, ⟨nd, rfl⟩⟩; (try first | exact ⟨rfl, _, World.drewN_drewN _ _ _⟩ | exact ⟨rfl, _, Eq.trans (World.drewN_drewN _ _ _) (congrArg (World.drewN _) (Nat.add_assoc _ _ _))⟩)) | (go_at_call 42; (with_reducible refine (hinterlandref14_within.calls a2 0 600 false _ A22.out).mono ?_); rintro e w' ⟨rfl, ⟨nd, rfl⟩⟩; (try first | exact ⟨rfl, _, World.drewN_drewN _ _ _⟩ | exact ⟨rfl, _, Eq.trans (World.drewN_drewN _ _ _) (congrArg (World.drewN _) (Nat.add_assoc _ _ _))⟩))); try go_wp2_with (first | (go_at_call 42; (with_reducible refine (hinterlandref14_within.calls a1 0 1000000 true _ A20.out).mono ?_); rintro e w' ⟨rfl, ⟨nd, rfl⟩⟩; (try first | exact ⟨rfl, _, World.drewN_drewN _ _ _⟩ | exact ⟨rfl, _, Eq.trans (World.drewN_drewN _ _ _) (congrArg (World.drewN _) (Nat.add_assoc _ _ _))⟩)) | (go_at_call 42; (with_reducible refine (hinterlandref14_within.calls a2 0 600 false _ A22.out).mono ?_); rintro e w' ⟨rfl, ⟨nd, rfl⟩⟩; (try first | exact ⟨rfl, _, World.drewN_drewN _ _ _⟩ | exact ⟨rfl, _, Eq.trans (World.drewN_drewN _ _ _) (congrArg (World.drewN _) (Nat.add_assoc _ _ _))⟩))))
        go_meet
        case rel => exact ⟨_, (true), (by first | rfl | (simp; done) | (simp [*]; done) | (refine congrArg (Value.int .i64) ?_; unfold wrap64; omega) | (simp only [shl_one_small _ (by assumption) (by omega)]; done) | (simp [*]; rw [shl_one_small _ (by assumption) (by omega)]; done)), H', ⟨by have := HK1.out; first | omega | exact Nat.le_refl _⟩, ⟨by (with_reducible repeat (first | refine blk_drewN ?_ _ | refine blk_drew ?_ | refine blk_alloc ?_ _)); exact BK316.out⟩, ⟨by repeat (first | (with_reducible first | exact HB.out | apply below_alloc | apply pw_below_drewN | apply below_drew1 | refine below_set ?_ GE316.out) | exact HB.out)⟩⟩
      ·replace c21 := Bool.eq_false_iff.mpr c21
       subst c21
       have H1 : (hinterlandref14_Speed.j2 k1 a1 a2 a3 a4 true a0_0 a0_1 a0_2 a0_3 a0_4 a0_5 a0_6 a0_7) = some (r1, r2) := by rw [if_neg (show ¬ (false = true) by decide)] at H; exact H
       clear H
       have H := H1
       clear H1
       have H' := Aside0.mk H
       clear H
       have hcz30_0 : wr.cell? ⟨gb316, 0, none⟩ = some (.int .i64 a0_0) := (blk_cell BK316.out 0).trans rfl
       have hcz30_1 : wr.cell? ⟨gb316, 1, none⟩ = some (.int .i64 a0_1) := (blk_cell BK316.out 1).trans rfl
       have hcz30_2 : wr.cell? ⟨gb316, 2, none⟩ = some (.int .i64 a0_2) := (blk_cell BK316.out 2).trans rfl
       have hcz30_3 : wr.cell? ⟨gb316, 3, none⟩ = some (.int .i64 a0_3) := (blk_cell BK316.out 3).trans rfl
       have hcz30_4 : wr.cell? ⟨gb316, 4, none⟩ = some (.int .i64 a0_4) := (blk_cell BK316.out 4).trans rfl
       have hcz30_5 : wr.cell? ⟨gb316, 5, none⟩ = some (.int .i64 a0_5) := (blk_cell BK316.out 5).trans rfl
       have hcz30_6 : wr.cell? ⟨gb316, 6, none⟩ = some (.int .i64 a0_6) := (blk_cell BK316.out 6).trans rfl
       have hcz30_7 : wr.cell? ⟨gb316, 7, none⟩ = some (.bool a0_7) := (blk_cell BK316.out 7).trans rfl
       have hfz30_0 := blk_frozen BK316.out 0
       have hfz30_1 := blk_frozen BK316.out 1
       have hfz30_2 := blk_frozen BK316.out 2
       have hfz30_3 := blk_frozen BK316.out 3
       have hfz30_4 := blk_frozen BK316.out 4
       have hfz30_5 := blk_frozen BK316.out 5
       have hfz30_6 := blk_frozen BK316.out 6
       have hfz30_7 := blk_frozen BK316.out 7
       go_wp2_with (first | (go_at_call 42; (with_reducible refine (hinterlandref14_within.calls a1 0 1000000 false _ A20.out).mono ?_); rintro e w' ⟨rfl, ⟨nd, rfl⟩⟩; (try first | exact ⟨rfl, _, World.drewN_drewN _ _ _⟩ | exact ⟨rfl, _, Eq.trans (World.drewN_drewN _ _ _) (congrArg (World.drewN _) (Nat.add_assoc _ _ _))⟩)))
       repeat (go_quiet (first | (go_at_call 42; (with_reducible refine (hinterlandref14_within.calls a1 0 1000000 false _ A20.out).mono ?_); rintro e w' ⟨rfl, ⟨nd, rfl⟩⟩; (try first | exact ⟨rfl, _, World.drewN_drewN _ _ _⟩ | exact ⟨rfl, _, Eq.trans (World.drewN_drewN _ _ _) (congrArg (World.drewN _) (Nat.add_assoc _ _ _))⟩))); try go_wp2_with (first | (go_at_call 42; (with_reducible refine (hinterlandref14_within.calls a1 0 1000000 false _ A20.out).mono ?_); rintro e w' ⟨rfl, ⟨nd, rfl⟩⟩; (try first | exact ⟨rfl, _, World.drewN_drewN _ _ _⟩ | exact ⟨rfl, _, Eq.trans (World.drewN_drewN _ _ _) (congrArg (World.drewN _) (Nat.add_assoc _ _ _))⟩))))
       go_meet
       case rel => exact ⟨_, (true), (by first | rfl | (simp; done) | (simp [*]; done) | (refine congrArg (Value.int .i64) ?_; unfold wrap64; omega) | (simp only [shl_one_small _ (by assumption) (by omega)]; done) | (simp [*]; rw [shl_one_small _ (by assumption) (by omega)]; done)), H', ⟨by have := HK1.out; first | omega | exact Nat.le_refl _⟩, ⟨by (with_reducible repeat (first | refine blk_drewN ?_ _ | refine blk_drew ?_ | refine blk_alloc ?_ _)); exact BK316.out⟩, ⟨by repeat (first | (with_reducible first | exact HB.out | apply below_alloc | apply pw_below_drewN | apply below_drew1 | refine below_set ?_ GE316.out) | exact HB.out)⟩⟩
    case rest =>
     clear HC17
     try clear c11
     try clear c11b0
     try clear c12
     try clear c13
     try clear c15
     try clear c18
     try clear hcz7_0
     try clear hcz7_1
     try clear hcz7_2
     try clear hcz7_3
     try clear hcz7_4
     try clear hcz7_5
     try clear hcz7_6
     try clear hcz7_7
     try clear hfz7_0
     try clear hfz7_1
     try clear hfz7_2
     try clear hfz7_3
     try clear hfz7_4
     try clear hfz7_5
     try clear hfz7_6
     try clear hfz7_7
     obtain ⟨kq, x67_16, rfl, HA, HJ16, BK316, HB⟩ := hcut
     cases kq with
     | zero => exact absurd HA.out (by simp [hinterlandref14_Speed.j2])
     | succ kj16 =>
      have H := HA.out
      clear HA
      simp only [hinterlandref14_Speed.j2] at H
      by_cases c31 : x67_16 = true
      ·subst c31
       have H1 : (some (0, 1)) = some (r1, r2) := by rw [if_pos rfl] at H; exact H
       clear H
       have H := H1
       clear H1
       simp only [Option.some.injEq, Prod.mk.injEq] at H
       obtain ⟨rfl, rfl⟩ := H
       go_wp2
       repeat (go_quiet (fail); try go_wp2)
       go_ret2
       exact ⟨by first | rfl | (simp [errW_none, errW_some] <;> rfl) | (simp [*, errW_none, errW_some] <;> rfl), by repeat (first | (with_reducible first | exact HB.out | apply below_alloc | apply pw_below_drewN | apply below_drew1 | refine below_set ?_ GE316.out) | exact HB.out)⟩
      ·replace c31 := Bool.eq_false_iff.mpr c31
       subst c31
       have H1 : (if a2 > (mn a0_0 a3) then (some (mx (mn a0_0 a3) (wrap64 (a2 - 10)), 0)) else (if (mx a2 1) = 0 then (none) else (if (wrap64 ((mn (wrap64 (1000 * a0_3)) (wrap64 (Int.tdiv (wrap64 (3600 * a0_1)) (mx a2 1)))) - (wrap64 ((wrap64 (a0_2 + a1)) * (wrap64 ((wrap64 (20 + a2)) + (wrap64 (300 * a4)))))))) > 0 then (if (wrap64 ((wrap64 (a0_2 + a1)) * 10000)) = 0 then (none) else (some (mn (wrap64 (a2 + (mx (wrap64 (Int.tdiv (wrap64 ((wrap64 ((mn (wrap64 (1000 * a0_3)) (wrap64 (Int.tdiv (wrap64 (3600 * a0_1)) (mx a2 1)))) - (wrap64 ((wrap64 (a0_2 + a1)) * (wrap64 ((wrap64 (20 + a2)) + (wrap64 (300 * a4)))))))) * 36)) (wrap64 ((wrap64 (a0_2 + a1)) * 10000)))) 1))) (mn a0_0 a3), 0))) else (if (wrap64 ((mn (wrap64 (1000 * a0_3)) (wrap64 (Int.tdiv (wrap64 (3600 * a0_1)) (mx a2 1)))) - (wrap64 ((wrap64 (a0_2 + a1)) * (wrap64 ((wrap64 (20 + a2)) + (wrap64 (300 * a4)))))))) < 0 then (if (wrap64 ((wrap64 (a0_2 + a1)) * 10000)) = 0 then (none) else (some (mx (wrap64 (a2 - (wrap64 (Int.tdiv (wrap64 ((wrap64 (-(wrap64 ((mn (wrap64 (1000 * a0_3)) (wrap64 (Int.tdiv (wrap64 (3600 * a0_1)) (mx a2 1)))) - (wrap64 ((wrap64 (a0_2 + a1)) * (wrap64 ((wrap64 (20 + a2)) + (wrap64 (300 * a4)))))))))) * 36)) (wrap64 ((wrap64 (a0_2 + a1)) * 10000)))))) 0, 0))) else (some (a2, 0)))))) = some (r1, r2) := by rw [if_neg (show ¬ (false = true) by decide)] at H; exact H
       clear H
       have H := H1
       clear H1
       obtain ⟨ji32, hji32⟩ : ∃ j_ : Int, (mn a0_0 a3) = j_ := ⟨_, rfl⟩
       replace H : (if a2 > (ji32) then (some (mx (ji32) (wrap64 (a2 - 10)), 0)) else (if (mx a2 1) = 0 then (none) else (if (wrap64 ((mn (wrap64 (1000 * a0_3)) (wrap64 (Int.tdiv (wrap64 (3600 * a0_1)) (mx a2 1)))) - (wrap64 ((wrap64 (a0_2 + a1)) * (wrap64 ((wrap64 (20 + a2)) + (wrap64 (300 * a4)))))))) > 0 then (if (wrap64 ((wrap64 (a0_2 + a1)) * 10000)) = 0 then (none) else (some (mn (wrap64 (a2 + (mx (wrap64 (Int.tdiv (wrap64 ((wrap64 ((mn (wrap64 (1000 * a0_3)) (wrap64 (Int.tdiv (wrap64 (3600 * a0_1)) (mx a2 1)))) - (wrap64 ((wrap64 (a0_2 + a1)) * (wrap64 ((wrap64 (20 + a2)) + (wrap64 (300 * a4)))))))) * 36)) (wrap64 ((wrap64 (a0_2 + a1)) * 10000)))) 1))) (ji32), 0))) else (if (wrap64 ((mn (wrap64 (1000 * a0_3)) (wrap64 (Int.tdiv (wrap64 (3600 * a0_1)) (mx a2 1)))) - (wrap64 ((wrap64 (a0_2 + a1)) * (wrap64 ((wrap64 (20 + a2)) + (wrap64 (300 * a4)))))))) < 0 then (if (wrap64 ((wrap64 (a0_2 + a1)) * 10000)) = 0 then (none) else (some (mx (wrap64 (a2 - (wrap64 (Int.tdiv (wrap64 ((wrap64 (-(wrap64 ((mn (wrap64 (1000 * a0_3)) (wrap64 (Int.tdiv (wrap64 (3600 * a0_1)) (mx a2 1)))) - (wrap64 ((wrap64 (a0_2 + a1)) * (wrap64 ((wrap64 (20 + a2)) + (wrap64 (300 * a4)))))))))) * 36)) (wrap64 ((wrap64 (a0_2 + a1)) * 10000)))))) 0, 0))) else (some (a2, 0)))))) = some (r1, r2) := by first | (rw [hji32] at H; exact H) | (simp only [hji32] at H ⊢; exact H)
       have hji32_ : (if a3 < a0_0 then a3 else a0_0) = ji32 := hji32
       by_cases c33 : a2 > (ji32)
       ·rw [if_pos c33] at H
        have c33b0 : decide ((ji32) < a2) = true := decide_eq_true c33
        clear c33
        obtain ⟨ji34, hji34⟩ : ∃ j_ : Int, (mx (ji32) (wrap64 (a2 - 10))) = j_ := ⟨_, rfl⟩
        replace H : (some (ji34, 0)) = some (r1, r2) := by first | (rw [hji34] at H; exact H) | (simp only [hji34] at H ⊢; exact H)
        have hji34_ : (if (ji32) < (wrap64 (a2 - 10)) then (wrap64 (a2 - 10)) else (ji32)) = ji34 := hji34
        simp only [Option.some.injEq, Prod.mk.injEq] at H
        obtain ⟨rfl, rfl⟩ := H
        have hcz35_0 : wc.cell? ⟨gb316, 0, none⟩ = some (.int .i64 a0_0) := (blk_cell BK316.out 0).trans rfl
        have hcz35_1 : wc.cell? ⟨gb316, 1, none⟩ = some (.int .i64 a0_1) := (blk_cell BK316.out 1).trans rfl
        have hcz35_2 : wc.cell? ⟨gb316, 2, none⟩ = some (.int .i64 a0_2) := (blk_cell BK316.out 2).trans rfl
        have hcz35_3 : wc.cell? ⟨gb316, 3, none⟩ = some (.int .i64 a0_3) := (blk_cell BK316.out 3).trans rfl
        have hcz35_4 : wc.cell? ⟨gb316, 4, none⟩ = some (.int .i64 a0_4) := (blk_cell BK316.out 4).trans rfl
        have hcz35_5 : wc.cell? ⟨gb316, 5, none⟩ = some (.int .i64 a0_5) := (blk_cell BK316.out 5).trans rfl
        have hcz35_6 : wc.cell? ⟨gb316, 6, none⟩ = some (.int .i64 a0_6) := (blk_cell BK316.out 6).trans rfl
        have hcz35_7 : wc.cell? ⟨gb316, 7, none⟩ = some (.bool a0_7) := (blk_cell BK316.out 7).trans rfl
        have hfz35_0 := blk_frozen BK316.out 0
        have hfz35_1 := blk_frozen BK316.out 1
        have hfz35_2 := blk_frozen BK316.out 2
        have hfz35_3 := blk_frozen BK316.out 3
        have hfz35_4 := blk_frozen BK316.out 4
        have hfz35_5 := blk_frozen BK316.out 5
        have hfz35_6 := blk_frozen BK316.out 6
        have hfz35_7 := blk_frozen BK316.out 7
        go_wp2
        repeat (go_quiet (fail); try go_wp2)
        go_ret2
        exact ⟨by first | rfl | (simp [errW_none, errW_some] <;> rfl) | (simp only [← hji32, ← hji34]; first | rfl | (simp [errW_none, errW_some] <;> rfl)) | (simp [*, errW_none, errW_some] <;> rfl), by repeat (first | (with_reducible first | exact HB.out | apply below_alloc | apply pw_below_drewN | apply below_drew1 | refine below_set ?_ GE316.out) | exact HB.out)⟩
       ·rw [if_neg c33] at H
        have c33b0 : decide ((ji32) < a2) = false := decide_eq_false c33
        clear c33
        obtain ⟨ji36, hji36⟩ : ∃ j_ : Int, (mx a2 1) = j_ := ⟨_, rfl⟩
        replace H : (if (ji36) = 0 then (none) else (if (wrap64 ((mn (wrap64 (1000 * a0_3)) (wrap64 (Int.tdiv (wrap64 (3600 * a0_1)) (ji36)))) - (wrap64 ((wrap64 (a0_2 + a1)) * (wrap64 ((wrap64 (20 + a2)) + (wrap64 (300 * a4)))))))) > 0 then (if (wrap64 ((wrap64 (a0_2 + a1)) * 10000)) = 0 then (none) else (some (mn (wrap64 (a2 + (mx (wrap64 (Int.tdiv (wrap64 ((wrap64 ((mn (wrap64 (1000 * a0_3)) (wrap64 (Int.tdiv (wrap64 (3600 * a0_1)) (ji36)))) - (wrap64 ((wrap64 (a0_2 + a1)) * (wrap64 ((wrap64 (20 + a2)) + (wrap64 (300 * a4)))))))) * 36)) (wrap64 ((wrap64 (a0_2 + a1)) * 10000)))) 1))) (ji32), 0))) else (if (wrap64 ((mn (wrap64 (1000 * a0_3)) (wrap64 (Int.tdiv (wrap64 (3600 * a0_1)) (ji36)))) - (wrap64 ((wrap64 (a0_2 + a1)) * (wrap64 ((wrap64 (20 + a2)) + (wrap64 (300 * a4)))))))) < 0 then (if (wrap64 ((wrap64 (a0_2 + a1)) * 10000)) = 0 then (none) else (some (mx (wrap64 (a2 - (wrap64 (Int.tdiv (wrap64 ((wrap64 (-(wrap64 ((mn (wrap64 (1000 * a0_3)) (wrap64 (Int.tdiv (wrap64 (3600 * a0_1)) (ji36)))) - (wrap64 ((wrap64 (a0_2 + a1)) * (wrap64 ((wrap64 (20 + a2)) + (wrap64 (300 * a4)))))))))) * 36)) (wrap64 ((wrap64 (a0_2 + a1)) * 10000)))))) 0, 0))) else (some (a2, 0))))) = some (r1, r2) := by first | (rw [hji36] at H; exact H) | (simp only [hji36] at H ⊢; exact H)
        have hji36_ : (if a2 < 1 then 1 else a2) = ji36 := hji36
        by_cases c37 : (ji36) = 0
        ·rw [if_pos c37] at H
         exact absurd H (by simp)
        ·rw [if_neg c37] at H
         have c37b0 : ((ji36) == 0) = false := beq_eq_false_iff_ne.mpr c37
         have c37b1 : ((ji36) != 0) = true := bne_iff_ne.mpr c37
         obtain ⟨ji38, hji38⟩ : ∃ j_ : Int, (mn (wrap64 (1000 * a0_3)) (wrap64 (Int.tdiv (wrap64 (3600 * a0_1)) (ji36)))) = j_ := ⟨_, rfl⟩
         replace H : (if (wrap64 ((ji38) - (wrap64 ((wrap64 (a0_2 + a1)) * (wrap64 ((wrap64 (20 + a2)) + (wrap64 (300 * a4)))))))) > 0 then (if (wrap64 ((wrap64 (a0_2 + a1)) * 10000)) = 0 then (none) else (some (mn (wrap64 (a2 + (mx (wrap64 (Int.tdiv (wrap64 ((wrap64 ((ji38) - (wrap64 ((wrap64 (a0_2 + a1)) * (wrap64 ((wrap64 (20 + a2)) + (wrap64 (300 * a4)))))))) * 36)) (wrap64 ((wrap64 (a0_2 + a1)) * 10000)))) 1))) (ji32), 0))) else (if (wrap64 ((ji38) - (wrap64 ((wrap64 (a0_2 + a1)) * (wrap64 ((wrap64 (20 + a2)) + (wrap64 (300 * a4)))))))) < 0 then (if (wrap64 ((wrap64 (a0_2 + a1)) * 10000)) = 0 then (none) else (some (mx (wrap64 (a2 - (wrap64 (Int.tdiv (wrap64 ((wrap64 (-(wrap64 ((ji38) - (wrap64 ((wrap64 (a0_2 + a1)) * (wrap64 ((wrap64 (20 + a2)) + (wrap64 (300 * a4)))))))))) * 36)) (wrap64 ((wrap64 (a0_2 + a1)) * 10000)))))) 0, 0))) else (some (a2, 0)))) = some (r1, r2) := by first | (rw [hji38] at H; exact H) | (simp only [hji38] at H ⊢; exact H)
         have hji38_ : (if (wrap64 (Int.tdiv (wrap64 (3600 * a0_1)) (ji36))) < (wrap64 (1000 * a0_3)) then (wrap64 (Int.tdiv (wrap64 (3600 * a0_1)) (ji36))) else (wrap64 (1000 * a0_3))) = ji38 := hji38
         by_cases c39 : (wrap64 ((ji38) - (wrap64 ((wrap64 (a0_2 + a1)) * (wrap64 ((wrap64 (20 + a2)) + (wrap64 (300 * a4)))))))) > 0
         ·rw [if_pos c39] at H
          have c39b0 : decide (0 < (wrap64 ((ji38) - (wrap64 ((wrap64 (a0_2 + a1)) * (wrap64 ((wrap64 (20 + a2)) + (wrap64 (300 * a4))))))))) = true := decide_eq_true c39
          clear c39
          by_cases c40 : (wrap64 ((wrap64 (a0_2 + a1)) * 10000)) = 0
          ·rw [if_pos c40] at H
           exact absurd H (by simp)
          ·rw [if_neg c40] at H
           have c40b0 : ((wrap64 ((wrap64 (a0_2 + a1)) * 10000)) == 0) = false := beq_eq_false_iff_ne.mpr c40
           have c40b1 : ((wrap64 ((wrap64 (a0_2 + a1)) * 10000)) != 0) = true := bne_iff_ne.mpr c40
           obtain ⟨ji41, hji41⟩ : ∃ j_ : Int, (mx (wrap64 (Int.tdiv (wrap64 ((wrap64 ((ji38) - (wrap64 ((wrap64 (a0_2 + a1)) * (wrap64 ((wrap64 (20 + a2)) + (wrap64 (300 * a4)))))))) * 36)) (wrap64 ((wrap64 (a0_2 + a1)) * 10000)))) 1) = j_ := ⟨_, rfl⟩
           replace H : (some (mn (wrap64 (a2 + (ji41))) (ji32), 0)) = some (r1, r2) := by first | (rw [hji41] at H; exact H) | (simp only [hji41] at H ⊢; exact H)
           have hji41_ : (if (wrap64 (Int.tdiv (wrap64 ((wrap64 ((ji38) - (wrap64 ((wrap64 (a0_2 + a1)) * (wrap64 ((wrap64 (20 + a2)) + (wrap64 (300 * a4)))))))) * 36)) (wrap64 ((wrap64 (a0_2 + a1)) * 10000)))) < 1 then 1 else (wrap64 (Int.tdiv (wrap64 ((wrap64 ((ji38) - (wrap64 ((wrap64 (a0_2 + a1)) * (wrap64 ((wrap64 (20 + a2)) + (wrap64 (300 * a4)))))))) * 36)) (wrap64 ((wrap64 (a0_2 + a1)) * 10000))))) = ji41 := hji41
           obtain ⟨ji42, hji42⟩ : ∃ j_ : Int, (mn (wrap64 (a2 + (ji41))) (ji32)) = j_ := ⟨_, rfl⟩
           replace H : (some (ji42, 0)) = some (r1, r2) := by first | (rw [hji42] at H; exact H) | (simp only [hji42] at H ⊢; exact H)
           have hji42_ : (if (ji32) < (wrap64 (a2 + (ji41))) then (ji32) else (wrap64 (a2 + (ji41)))) = ji42 := hji42
           simp only [Option.some.injEq, Prod.mk.injEq] at H
           obtain ⟨rfl, rfl⟩ := H
           have hcz43_0 : wc.cell? ⟨gb316, 0, none⟩ = some (.int .i64 a0_0) := (blk_cell BK316.out 0).trans rfl
           have hcz43_1 : wc.cell? ⟨gb316, 1, none⟩ = some (.int .i64 a0_1) := (blk_cell BK316.out 1).trans rfl
           have hcz43_2 : wc.cell? ⟨gb316, 2, none⟩ = some (.int .i64 a0_2) := (blk_cell BK316.out 2).trans rfl
           have hcz43_3 : wc.cell? ⟨gb316, 3, none⟩ = some (.int .i64 a0_3) := (blk_cell BK316.out 3).trans rfl
           have hcz43_4 : wc.cell? ⟨gb316, 4, none⟩ = some (.int .i64 a0_4) := (blk_cell BK316.out 4).trans rfl
           have hcz43_5 : wc.cell? ⟨gb316, 5, none⟩ = some (.int .i64 a0_5) := (blk_cell BK316.out 5).trans rfl
           have hcz43_6 : wc.cell? ⟨gb316, 6, none⟩ = some (.int .i64 a0_6) := (blk_cell BK316.out 6).trans rfl
           have hcz43_7 : wc.cell? ⟨gb316, 7, none⟩ = some (.bool a0_7) := (blk_cell BK316.out 7).trans rfl
           have hfz43_0 := blk_frozen BK316.out 0
           have hfz43_1 := blk_frozen BK316.out 1
           have hfz43_2 := blk_frozen BK316.out 2
           have hfz43_3 := blk_frozen BK316.out 3
           have hfz43_4 := blk_frozen BK316.out 4
           have hfz43_5 := blk_frozen BK316.out 5
           have hfz43_6 := blk_frozen BK316.out 6
           have hfz43_7 := blk_frozen BK316.out 7
           go_wp2
           repeat (go_quiet (fail); try go_wp2)
           go_ret2
           exact ⟨by first | rfl | (simp [errW_none, errW_some] <;> rfl) | (simp only [← hji32, ← hji36, ← hji38, ← hji41, ← hji42]; first | rfl | (simp [errW_none, errW_some] <;> rfl)) | (simp [*, errW_none, errW_some] <;> rfl), by repeat (first | (with_reducible first | exact HB.out | apply below_alloc | apply pw_below_drewN | apply below_drew1 | refine below_set ?_ GE316.out) | exact HB.out)⟩
         ·rw [if_neg c39] at H
          have c39b0 : decide (0 < (wrap64 ((ji38) - (wrap64 ((wrap64 (a0_2 + a1)) * (wrap64 ((wrap64 (20 + a2)) + (wrap64 (300 * a4))))))))) = false := decide_eq_false c39
          clear c39
          by_cases c44 : (wrap64 ((ji38) - (wrap64 ((wrap64 (a0_2 + a1)) * (wrap64 ((wrap64 (20 + a2)) + (wrap64 (300 * a4)))))))) < 0
          ·rw [if_pos c44] at H
           have c44b0 : decide ((wrap64 ((ji38) - (wrap64 ((wrap64 (a0_2 + a1)) * (wrap64 ((wrap64 (20 + a2)) + (wrap64 (300 * a4)))))))) < 0) = true := decide_eq_true c44
           clear c44
           by_cases c45 : (wrap64 ((wrap64 (a0_2 + a1)) * 10000)) = 0
           ·rw [if_pos c45] at H
            exact absurd H (by simp)
           ·rw [if_neg c45] at H
            have c45b0 : ((wrap64 ((wrap64 (a0_2 + a1)) * 10000)) == 0) = false := beq_eq_false_iff_ne.mpr c45
            have c45b1 : ((wrap64 ((wrap64 (a0_2 + a1)) * 10000)) != 0) = true := bne_iff_ne.mpr c45
            obtain ⟨ji46, hji46⟩ : ∃ j_ : Int, (mx (wrap64 (a2 - (wrap64 (Int.tdiv (wrap64 ((wrap64 (-(wrap64 ((ji38) - (wrap64 ((wrap64 (a0_2 + a1)) * (wrap64 ((wrap64 (20 + a2)) + (wrap64 (300 * a4)))))))))) * 36)) (wrap64 ((wrap64 (a0_2 + a1)) * 10000)))))) 0) = j_ := ⟨_, rfl⟩
            replace H : (some (ji46, 0)) = some (r1, r2) := by first | (rw [hji46] at H; exact H) | (simp only [hji46] at H ⊢; exact H)
            have hji46_ : (if (wrap64 (a2 - (wrap64 (Int.tdiv (wrap64 ((wrap64 (-(wrap64 ((ji38) - (wrap64 ((wrap64 (a0_2 + a1)) * (wrap64 ((wrap64 (20 + a2)) + (wrap64 (300 * a4)))))))))) * 36)) (wrap64 ((wrap64 (a0_2 + a1)) * 10000)))))) < 0 then 0 else (wrap64 (a2 - (wrap64 (Int.tdiv (wrap64 ((wrap64 (-(wrap64 ((ji38) - (wrap64 ((wrap64 (a0_2 + a1)) * (wrap64 ((wrap64 (20 + a2)) + (wrap64 (300 * a4)))))))))) * 36)) (wrap64 ((wrap64 (a0_2 + a1)) * 10000))))))) = ji46 := hji46
            simp only [Option.some.injEq, Prod.mk.injEq] at H
            obtain ⟨rfl, rfl⟩ := H
            have hcz47_0 : wc.cell? ⟨gb316, 0, none⟩ = some (.int .i64 a0_0) := (blk_cell BK316.out 0).trans rfl
            have hcz47_1 : wc.cell? ⟨gb316, 1, none⟩ = some (.int .i64 a0_1) := (blk_cell BK316.out 1).trans rfl
            have hcz47_2 : wc.cell? ⟨gb316, 2, none⟩ = some (.int .i64 a0_2) := (blk_cell BK316.out 2).trans rfl
            have hcz47_3 : wc.cell? ⟨gb316, 3, none⟩ = some (.int .i64 a0_3) := (blk_cell BK316.out 3).trans rfl
            have hcz47_4 : wc.cell? ⟨gb316, 4, none⟩ = some (.int .i64 a0_4) := (blk_cell BK316.out 4).trans rfl
            have hcz47_5 : wc.cell? ⟨gb316, 5, none⟩ = some (.int .i64 a0_5) := (blk_cell BK316.out 5).trans rfl
            have hcz47_6 : wc.cell? ⟨gb316, 6, none⟩ = some (.int .i64 a0_6) := (blk_cell BK316.out 6).trans rfl
            have hcz47_7 : wc.cell? ⟨gb316, 7, none⟩ = some (.bool a0_7) := (blk_cell BK316.out 7).trans rfl
            have hfz47_0 := blk_frozen BK316.out 0
            have hfz47_1 := blk_frozen BK316.out 1
            have hfz47_2 := blk_frozen BK316.out 2
            have hfz47_3 := blk_frozen BK316.out 3
            have hfz47_4 := blk_frozen BK316.out 4
            have hfz47_5 := blk_frozen BK316.out 5
            have hfz47_6 := blk_frozen BK316.out 6
            have hfz47_7 := blk_frozen BK316.out 7
            go_wp2
            repeat (go_quiet (fail); try go_wp2)
            go_ret2
            exact ⟨by first | rfl | (simp [errW_none, errW_some] <;> rfl) | (simp only [← hji32, ← hji36, ← hji38, ← hji46]; first | rfl | (simp [errW_none, errW_some] <;> rfl)) | (simp [*, errW_none, errW_some] <;> rfl), by repeat (first | (with_reducible first | exact HB.out | apply below_alloc | apply pw_below_drewN | apply below_drew1 | refine below_set ?_ GE316.out) | exact HB.out)⟩
          ·rw [if_neg c44] at H
           have c44b0 : decide ((wrap64 ((ji38) - (wrap64 ((wrap64 (a0_2 + a1)) * (wrap64 ((wrap64 (20 + a2)) + (wrap64 (300 * a4)))))))) < 0) = false := decide_eq_false c44
           clear c44
           simp only [Option.some.injEq, Prod.mk.injEq] at H
           obtain ⟨rfl, rfl⟩ := H
           have hcz48_0 : wc.cell? ⟨gb316, 0, none⟩ = some (.int .i64 a0_0) := (blk_cell BK316.out 0).trans rfl
           have hcz48_1 : wc.cell? ⟨gb316, 1, none⟩ = some (.int .i64 a0_1) := (blk_cell BK316.out 1).trans rfl
           have hcz48_2 : wc.cell? ⟨gb316, 2, none⟩ = some (.int .i64 a0_2) := (blk_cell BK316.out 2).trans rfl
           have hcz48_3 : wc.cell? ⟨gb316, 3, none⟩ = some (.int .i64 a0_3) := (blk_cell BK316.out 3).trans rfl
           have hcz48_4 : wc.cell? ⟨gb316, 4, none⟩ = some (.int .i64 a0_4) := (blk_cell BK316.out 4).trans rfl
           have hcz48_5 : wc.cell? ⟨gb316, 5, none⟩ = some (.int .i64 a0_5) := (blk_cell BK316.out 5).trans rfl
           have hcz48_6 : wc.cell? ⟨gb316, 6, none⟩ = some (.int .i64 a0_6) := (blk_cell BK316.out 6).trans rfl
           have hcz48_7 : wc.cell? ⟨gb316, 7, none⟩ = some (.bool a0_7) := (blk_cell BK316.out 7).trans rfl
           have hfz48_0 := blk_frozen BK316.out 0
           have hfz48_1 := blk_frozen BK316.out 1
           have hfz48_2 := blk_frozen BK316.out 2
           have hfz48_3 := blk_frozen BK316.out 3
           have hfz48_4 := blk_frozen BK316.out 4
           have hfz48_5 := blk_frozen BK316.out 5
           have hfz48_6 := blk_frozen BK316.out 6
           have hfz48_7 := blk_frozen BK316.out 7
           go_wp2
           repeat (go_quiet (fail); try go_wp2)
           go_ret2
           exact ⟨by first | rfl | (simp [errW_none, errW_some] <;> rfl) | (simp only [← hji32, ← hji36, ← hji38]; first | rfl | (simp [errW_none, errW_some] <;> rfl)) | (simp [*, errW_none, errW_some] <;> rfl), by repeat (first | (with_reducible first | exact HB.out | apply below_alloc | apply pw_below_drewN | apply below_drew1 | refine below_set ?_ GE316.out) | exact HB.out)⟩

end Go.Proofs.Ytgnahbjpockdmaa.Q
