-- PRINTED by print.py (a twelfth state) out of the translation. Not trusted: Lean checks it.
import Derived.Test.YtmgccgiomnkbmaaQ0
import Derived.Test.YtmgccgiomnkbmaaQ4
import Derived.Test.YtmgccgiomnkbmaaQ5
namespace Go.Proofs.Ytmgccgiomnkbmaa.Q
open Go.RowKit Go.Proofs.YtmgccgiomnkbmaaOwn Go.Proofs.YtmgccgiomnkbmaaW.PrintWords Go.Proofs.YtmgccgiomnkbmaaW.PrintLast Go.Proofs.YtmgccgiomnkbmaaW.PrintMore
attribute [local go_sem] max2_int min2_int max_two min_two max_three min_three max_four min_four   -- for this text's walks alone
set_option linter.unusedVariables false
set_option linter.unusedSimpArgs false

/-! ### roll_Day: function 24 -/
mutual
def roll_Day.j0 : Nat → Bool → Int → Int → Int → Option (Int × Int)
  | 0, _, _, _, _ => none
  | k + 1, x25, x223000, x223001, x223002 => if x25 = true then (some (0, 1)) else ((roll_months.f x223000).bind fun bt223 => (if x223002 < 1 then (roll_Day.j1 k true x223000 x223001 x223002 bt223.1 bt223.2.1 bt223.2.2.1 bt223.2.2.2.1 bt223.2.2.2.2.1 bt223.2.2.2.2.2.1 bt223.2.2.2.2.2.2.1 bt223.2.2.2.2.2.2.2.1 bt223.2.2.2.2.2.2.2.2.1 bt223.2.2.2.2.2.2.2.2.2.1 bt223.2.2.2.2.2.2.2.2.2.2.1 bt223.2.2.2.2.2.2.2.2.2.2.2) else (if 0 ≤ (wrap64 (x223001 - 1)) then (if (wrap64 (x223001 - 1)) < 12 then (roll_Day.j1 k (decide (x223002 > (rd [bt223.1, bt223.2.1, bt223.2.2.1, bt223.2.2.2.1, bt223.2.2.2.2.1, bt223.2.2.2.2.2.1, bt223.2.2.2.2.2.2.1, bt223.2.2.2.2.2.2.2.1, bt223.2.2.2.2.2.2.2.2.1, bt223.2.2.2.2.2.2.2.2.2.1, bt223.2.2.2.2.2.2.2.2.2.2.1, bt223.2.2.2.2.2.2.2.2.2.2.2] (wrap64 (x223001 - 1))))) x223000 x223001 x223002 bt223.1 bt223.2.1 bt223.2.2.1 bt223.2.2.2.1 bt223.2.2.2.2.1 bt223.2.2.2.2.2.1 bt223.2.2.2.2.2.2.1 bt223.2.2.2.2.2.2.2.1 bt223.2.2.2.2.2.2.2.2.1 bt223.2.2.2.2.2.2.2.2.2.1 bt223.2.2.2.2.2.2.2.2.2.2.1 bt223.2.2.2.2.2.2.2.2.2.2.2) else (none)) else (none))))
def roll_Day.j1 : Nat → Bool → Int → Int → Int → Int → Int → Int → Int → Int → Int → Int → Int → Int → Int → Int → Int → Option (Int × Int)
  | 0, _, _, _, _, _, _, _, _, _, _, _, _, _, _, _, _ => none
  | k + 1, x41, x223000, x223001, x223002, x236000, x236001, x236002, x236003, x236004, x236005, x236006, x236007, x236008, x236009, x236010, x236011 => if x41 = true then (some (0, 1)) else (roll_Day.l0 k (wrap64 (x223002 - 1)) 1900 x223000 x223001 x223002 x236000 x236001 x236002 x236003 x236004 x236005 x236006 x236007 x236008 x236009 x236010 x236011)
def roll_Day.l0 : Nat → Int → Int → Int → Int → Int → Int → Int → Int → Int → Int → Int → Int → Int → Int → Int → Int → Int → Option (Int × Int)
  | 0, _, _, _, _, _, _, _, _, _, _, _, _, _, _, _, _, _ => none
  | k + 1, x5, x6, x223000, x223001, x223002, x236000, x236001, x236002, x236003, x236004, x236005, x236006, x236007, x236008, x236009, x236010, x236011 => if x6 < x223000 then ((roll_length.f x6).bind fun t236 => (roll_Day.l0 k (wrap64 (x5 + t236)) (wrap64 (x6 + 1)) x223000 x223001 x223002 x236000 x236001 x236002 x236003 x236004 x236005 x236006 x236007 x236008 x236009 x236010 x236011)) else (roll_Day.l1 k x5 (wrap64 (x223001 - 1)) 0 x236000 x236001 x236002 x236003 x236004 x236005 x236006 x236007 x236008 x236009 x236010 x236011)
def roll_Day.l1 : Nat → Int → Int → Int → Int → Int → Int → Int → Int → Int → Int → Int → Int → Int → Int → Int → Option (Int × Int)
  | 0, _, _, _, _, _, _, _, _, _, _, _, _, _, _, _ => none
  | k + 1, x5, x57, x58, x236000, x236001, x236002, x236003, x236004, x236005, x236006, x236007, x236008, x236009, x236010, x236011 => if x58 < x57 then (if 0 ≤ x58 then (if x58 < 12 then (roll_Day.l1 k (wrap64 (x5 + (rd [x236000, x236001, x236002, x236003, x236004, x236005, x236006, x236007, x236008, x236009, x236010, x236011] x58))) x57 (wrap64 (x58 + 1)) x236000 x236001 x236002 x236003 x236004 x236005 x236006 x236007 x236008 x236009 x236010 x236011) else (none)) else (none)) else (if x5 > 100000 then (some (0, 1)) else (some (x5, 0)))
end
def roll_Day.f (k : Nat) (a0_0 : Int) (a0_1 : Int) (a0_2 : Int) : Option (Int × Int) := if a0_0 < 1900 then (roll_Day.j0 k true a0_0 a0_1 a0_2) else (if a0_0 > 2173 then (roll_Day.j0 k true a0_0 a0_1 a0_2) else (if a0_1 < 1 then (roll_Day.j0 k true a0_0 a0_1 a0_2) else (roll_Day.j0 k (decide (a0_1 > 12)) a0_0 a0_1 a0_2)))
theorem roll_Day.mono_l : ∀ k, (∀ y0 y1 y2 y3, LeO (roll_Day.j0 k y0 y1 y2 y3) (roll_Day.j0 (k + 1) y0 y1 y2 y3)) ∧ (∀ y0 y1 y2 y3 y4 y5 y6 y7 y8 y9 y10 y11 y12 y13 y14 y15, LeO (roll_Day.j1 k y0 y1 y2 y3 y4 y5 y6 y7 y8 y9 y10 y11 y12 y13 y14 y15) (roll_Day.j1 (k + 1) y0 y1 y2 y3 y4 y5 y6 y7 y8 y9 y10 y11 y12 y13 y14 y15)) ∧ (∀ y0 y1 y2 y3 y4 y5 y6 y7 y8 y9 y10 y11 y12 y13 y14 y15 y16, LeO (roll_Day.l0 k y0 y1 y2 y3 y4 y5 y6 y7 y8 y9 y10 y11 y12 y13 y14 y15 y16) (roll_Day.l0 (k + 1) y0 y1 y2 y3 y4 y5 y6 y7 y8 y9 y10 y11 y12 y13 y14 y15 y16)) ∧ (∀ y0 y1 y2 y3 y4 y5 y6 y7 y8 y9 y10 y11 y12 y13 y14, LeO (roll_Day.l1 k y0 y1 y2 y3 y4 y5 y6 y7 y8 y9 y10 y11 y12 y13 y14) (roll_Day.l1 (k + 1) y0 y1 y2 y3 y4 y5 y6 y7 y8 y9 y10 y11 y12 y13 y14))
  | 0 => ⟨fun _ _ _ _ r h => by simp [roll_Day.j0] at h, fun _ _ _ _ _ _ _ _ _ _ _ _ _ _ _ _ r h => by simp [roll_Day.j1] at h, fun _ _ _ _ _ _ _ _ _ _ _ _ _ _ _ _ _ r h => by simp [roll_Day.l0] at h, fun _ _ _ _ _ _ _ _ _ _ _ _ _ _ _ r h => by simp [roll_Day.l1] at h⟩
  | k + 1 => by
    obtain ⟨ih0, ih1, ih2, ih3⟩ := roll_Day.mono_l k
    refine ⟨?_, ?_, ?_, ?_⟩
    · intro y0 y1 y2 y3
      unfold roll_Day.j0
      repeat' first
      | (with_reducible exact ih0 _ _ _ _)
      | (with_reducible exact ih1 _ _ _ _ _ _ _ _ _ _ _ _ _ _ _ _)
      | (with_reducible exact ih2 _ _ _ _ _ _ _ _ _ _ _ _ _ _ _ _ _)
      | (with_reducible exact ih3 _ _ _ _ _ _ _ _ _ _ _ _ _ _ _)
      | (with_reducible exact LeO.refl _)
      | (with_reducible exact LeO.none _)
      | (with_reducible refine LeO.ite ?_ ?_)
      | (with_reducible refine LeO.bind ?_ (fun _ => ?_))
      | exact ih0 _ _ _ _
      | exact ih1 _ _ _ _ _ _ _ _ _ _ _ _ _ _ _ _
      | exact ih2 _ _ _ _ _ _ _ _ _ _ _ _ _ _ _ _ _
      | exact ih3 _ _ _ _ _ _ _ _ _ _ _ _ _ _ _
      | exact LeO.none _
      | refine LeO.ite ?_ ?_
      | refine LeO.bind ?_ (fun _ => ?_)
    · intro y0 y1 y2 y3 y4 y5 y6 y7 y8 y9 y10 y11 y12 y13 y14 y15
      unfold roll_Day.j1
      repeat' first
      | (with_reducible exact ih0 _ _ _ _)
      | (with_reducible exact ih1 _ _ _ _ _ _ _ _ _ _ _ _ _ _ _ _)
      | (with_reducible exact ih2 _ _ _ _ _ _ _ _ _ _ _ _ _ _ _ _ _)
      | (with_reducible exact ih3 _ _ _ _ _ _ _ _ _ _ _ _ _ _ _)
      | (with_reducible exact LeO.refl _)
      | (with_reducible exact LeO.none _)
      | (with_reducible refine LeO.ite ?_ ?_)
      | (with_reducible refine LeO.bind ?_ (fun _ => ?_))
      | exact ih0 _ _ _ _
      | exact ih1 _ _ _ _ _ _ _ _ _ _ _ _ _ _ _ _
      | exact ih2 _ _ _ _ _ _ _ _ _ _ _ _ _ _ _ _ _
      | exact ih3 _ _ _ _ _ _ _ _ _ _ _ _ _ _ _
      | exact LeO.none _
      | refine LeO.ite ?_ ?_
      | refine LeO.bind ?_ (fun _ => ?_)
    · intro y0 y1 y2 y3 y4 y5 y6 y7 y8 y9 y10 y11 y12 y13 y14 y15 y16
      unfold roll_Day.l0
      repeat' first
      | (with_reducible exact ih0 _ _ _ _)
      | (with_reducible exact ih1 _ _ _ _ _ _ _ _ _ _ _ _ _ _ _ _)
      | (with_reducible exact ih2 _ _ _ _ _ _ _ _ _ _ _ _ _ _ _ _ _)
      | (with_reducible exact ih3 _ _ _ _ _ _ _ _ _ _ _ _ _ _ _)
      | (with_reducible exact LeO.refl _)
      | (with_reducible exact LeO.none _)
      | (with_reducible refine LeO.ite ?_ ?_)
      | (with_reducible refine LeO.bind ?_ (fun _ => ?_))
      | exact ih0 _ _ _ _
      | exact ih1 _ _ _ _ _ _ _ _ _ _ _ _ _ _ _ _
      | exact ih2 _ _ _ _ _ _ _ _ _ _ _ _ _ _ _ _ _
      | exact ih3 _ _ _ _ _ _ _ _ _ _ _ _ _ _ _
      | exact LeO.none _
      | refine LeO.ite ?_ ?_
      | refine LeO.bind ?_ (fun _ => ?_)
    · intro y0 y1 y2 y3 y4 y5 y6 y7 y8 y9 y10 y11 y12 y13 y14
      unfold roll_Day.l1
      repeat' first
      | (with_reducible exact ih0 _ _ _ _)
      | (with_reducible exact ih1 _ _ _ _ _ _ _ _ _ _ _ _ _ _ _ _)
      | (with_reducible exact ih2 _ _ _ _ _ _ _ _ _ _ _ _ _ _ _ _ _)
      | (with_reducible exact ih3 _ _ _ _ _ _ _ _ _ _ _ _ _ _ _)
      | (with_reducible exact LeO.refl _)
      | (with_reducible exact LeO.none _)
      | (with_reducible refine LeO.ite ?_ ?_)
      | (with_reducible refine LeO.bind ?_ (fun _ => ?_))
      | exact ih0 _ _ _ _
      | exact ih1 _ _ _ _ _ _ _ _ _ _ _ _ _ _ _ _
      | exact ih2 _ _ _ _ _ _ _ _ _ _ _ _ _ _ _ _ _
      | exact ih3 _ _ _ _ _ _ _ _ _ _ _ _ _ _ _
      | exact LeO.none _
      | refine LeO.ite ?_ ?_
      | refine LeO.bind ?_ (fun _ => ?_)
theorem roll_Day.mono : ∀ a0 a1 a2 k, LeO (roll_Day.f k a0 a1 a2) (roll_Day.f (k + 1) a0 a1 a2) := by
  intro a0 a1 a2 k
  obtain ⟨ih0, ih1, ih2, ih3⟩ := roll_Day.mono_l k
  unfold roll_Day.f
  repeat' first
      | (with_reducible exact ih0 _ _ _ _)
      | (with_reducible exact ih1 _ _ _ _ _ _ _ _ _ _ _ _ _ _ _ _)
      | (with_reducible exact ih2 _ _ _ _ _ _ _ _ _ _ _ _ _ _ _ _ _)
      | (with_reducible exact ih3 _ _ _ _ _ _ _ _ _ _ _ _ _ _ _)
      | (with_reducible exact LeO.refl _)
      | (with_reducible exact LeO.none _)
      | (with_reducible refine LeO.ite ?_ ?_)
      | (with_reducible refine LeO.bind ?_ (fun _ => ?_))
      | exact ih0 _ _ _ _
      | exact ih1 _ _ _ _ _ _ _ _ _ _ _ _ _ _ _ _
      | exact ih2 _ _ _ _ _ _ _ _ _ _ _ _ _ _ _ _ _
      | exact ih3 _ _ _ _ _ _ _ _ _ _ _ _ _ _ _
      | exact LeO.none _
      | refine LeO.ite ?_ ?_
      | refine LeO.bind ?_ (fun _ => ?_)
set_option maxHeartbeats 8000000 in
set_option maxRecDepth 100000 in
theorem roll_Day.calls (k : Nat) (a0_0 : Int) (a0_1 : Int) (a0_2 : Int) (r1 : Int) (r2 : Int) (w : World) (h : roll_Day.f k a0_0 a0_1 a0_2 = some (r1, r2)) :
    Calls Try.prog 24 #[.agg #[.int .i64 a0_0, .int .i64 a0_1, .int .i64 a0_2]] w fun e w' => e = .returned (.tuple #[.int .i64 r1, .int .i64 r2]) ∧ Below w.heap.size w w' := by
 have hu23 := Try.underlying23
 have hu57 := Try.underlying57
 have HB := Aside0.mk (Below.refl w.heap.size w)
 have H : (if a0_0 < 1900 then (roll_Day.j0 k true a0_0 a0_1 a0_2) else (if a0_0 > 2173 then (roll_Day.j0 k true a0_0 a0_1 a0_2) else (if a0_1 < 1 then (roll_Day.j0 k true a0_0 a0_1 a0_2) else (roll_Day.j0 k (decide (a0_1 > 12)) a0_0 a0_1 a0_2)))) = some (r1, r2) := h
 clear h
 have HC2 := Aside0.mk H
 clear H
 go_enter Try.func24, Try.ntmps24
 go_upto_region 1 with (first | ((with_reducible refine gate_dst (N := 1) rfl ?_); refine box_event ?hg (N := 1) ?hd (cs := #[.int .i64 a0_0, .int .i64 a0_1, .int .i64 a0_2]) (t := 23) ?hr ?_; (case hd => rfl); (case hg => rfl); (case hr => first | (go_simp; done) | (go_simp; rfl)); intro gb222 hg w3 hbox hb; have n0_ := Aside0.mk (below_step (by repeat (first | (with_reducible first | exact HB.out | apply below_alloc | apply pw_below_drewN | apply below_drew1) | exact HB.out)) hb); have n1_ := Aside0.mk (hbox); have n2_ := Aside0.mk ((by rw [hg]; exact (below_size (by repeat (first | (with_reducible first | exact HB.out | apply below_alloc | apply pw_below_drewN | apply below_drew1) | exact HB.out))) : w.heap.size ≤ gb222)); have n3_ := Aside0.mk ((by rw [hg]; exact (below_size (by repeat (first | (with_reducible first | exact HB.out | apply below_alloc | apply pw_below_drewN | apply below_drew1) | exact HB.out))) : w.heap.size ≤ gb222)); clear HB; have HB := n0_; have BK222 := n1_; have GW222 := n2_; have GE222 := n3_; clear n0_ n1_ n2_ n3_; clear hb hbox hg))
 repeat (go_quiet (first | ((with_reducible refine gate_dst (N := 1) rfl ?_); refine box_event ?hg (N := 1) ?hd (cs := #[.int .i64 a0_0, .int .i64 a0_1, .int .i64 a0_2]) (t := 23) ?hr ?_; (case hd => rfl); (case hg => rfl); (case hr => first | (go_simp; done) | (go_simp; rfl)); intro gb222 hg w3 hbox hb; have n0_ := Aside0.mk (below_step (by repeat (first | (with_reducible first | exact HB.out | apply below_alloc | apply pw_below_drewN | apply below_drew1) | exact HB.out)) hb); have n1_ := Aside0.mk (hbox); have n2_ := Aside0.mk ((by rw [hg]; exact (below_size (by repeat (first | (with_reducible first | exact HB.out | apply below_alloc | apply pw_below_drewN | apply below_drew1) | exact HB.out))) : w.heap.size ≤ gb222)); have n3_ := Aside0.mk ((by rw [hg]; exact (below_size (by repeat (first | (with_reducible first | exact HB.out | apply below_alloc | apply pw_below_drewN | apply below_drew1) | exact HB.out))) : w.heap.size ≤ gb222)); clear HB; have HB := n0_; have BK222 := n1_; have GW222 := n2_; have GE222 := n3_; clear n0_ n1_ n2_ n3_; clear hb hbox hg)); go_upto_region 1 with (first | ((with_reducible refine gate_dst (N := 1) rfl ?_); refine box_event ?hg (N := 1) ?hd (cs := #[.int .i64 a0_0, .int .i64 a0_1, .int .i64 a0_2]) (t := 23) ?hr ?_; (case hd => rfl); (case hg => rfl); (case hr => first | (go_simp; done) | (go_simp; rfl)); intro gb222 hg w3 hbox hb; have n0_ := Aside0.mk (below_step (by repeat (first | (with_reducible first | exact HB.out | apply below_alloc | apply pw_below_drewN | apply below_drew1) | exact HB.out)) hb); have n1_ := Aside0.mk (hbox); have n2_ := Aside0.mk ((by rw [hg]; exact (below_size (by repeat (first | (with_reducible first | exact HB.out | apply below_alloc | apply pw_below_drewN | apply below_drew1) | exact HB.out))) : w.heap.size ≤ gb222)); have n3_ := Aside0.mk ((by rw [hg]; exact (below_size (by repeat (first | (with_reducible first | exact HB.out | apply below_alloc | apply pw_below_drewN | apply below_drew1) | exact HB.out))) : w.heap.size ≤ gb222)); clear HB; have HB := n0_; have BK222 := n1_; have GW222 := n2_; have GE222 := n3_; clear n0_ n1_ n2_ n3_; clear hb hbox hg)))
 (try simp only [Act.put, List.setIfInBounds_toArray, List.set_cons_zero, List.set_cons_succ])
 go_cut [25] (fun v25 wc => ∃ (kq : Nat) (x25_1 : Bool), v25 = .bool x25_1 ∧ Aside0 (roll_Day.j0 kq x25_1 a0_0 a0_1 a0_2 = some (r1, r2)) ∧ Aside0 (kq ≤ k) ∧ Aside0 (wc.heap[gb222]? = some (.cells #[.int .i64 a0_0, .int .i64 a0_1, .int .i64 a0_2] 23 (0, 0))) ∧ Aside0 (Below w.heap.size w wc))
 case first =>
  have H := HC2.out
  clear HC2
  by_cases c4 : a0_0 < 1900
  ·rw [if_pos c4] at H
   have c4b0 : decide (a0_0 < 1900) = true := decide_eq_true c4
   clear c4
   (first | rw [c4b0] | (simp only [i64_w, i32_w]; rw [c4b0]) | skip)
   have H' := Aside0.mk H
   clear H
   have hcz5_0 : w3.cell? ⟨gb222, 0, none⟩ = some (.int .i64 a0_0) := (blk_cell BK222.out 0).trans rfl
   have hcz5_1 : w3.cell? ⟨gb222, 1, none⟩ = some (.int .i64 a0_1) := (blk_cell BK222.out 1).trans rfl
   have hcz5_2 : w3.cell? ⟨gb222, 2, none⟩ = some (.int .i64 a0_2) := (blk_cell BK222.out 2).trans rfl
   have hfz5_0 := blk_frozen BK222.out 0
   have hfz5_1 := blk_frozen BK222.out 1
   have hfz5_2 := blk_frozen BK222.out 2
   go_wp2
   repeat (go_quiet (fail); try go_wp2)
   go_meet
   case rel => exact ⟨_, (true), (by first | rfl | (simp; done) | (simp [*]; done) | (refine congrArg (Value.int .i64) ?_; unfold wrap64; omega) | (simp only [shl_one_small _ (by assumption) (by omega)]; done) | (simp [*]; rw [shl_one_small _ (by assumption) (by omega)]; done)), H', ⟨by first | omega | exact Nat.le_refl _⟩, ⟨by (with_reducible repeat (first | refine blk_drewN ?_ _ | refine blk_drew ?_ | refine blk_alloc ?_ _)); exact BK222.out⟩, ⟨by repeat (first | (with_reducible first | exact HB.out | apply below_alloc | apply pw_below_drewN | apply below_drew1 | refine below_set ?_ GE222.out) | exact HB.out)⟩⟩
  ·rw [if_neg c4] at H
   have c4b0 : decide (a0_0 < 1900) = false := decide_eq_false c4
   clear c4
   (first | rw [c4b0] | (simp only [i64_w, i32_w]; rw [c4b0]) | skip)
   by_cases c6 : a0_0 > 2173
   ·rw [if_pos c6] at H
    have c6b0 : decide (2173 < a0_0) = true := decide_eq_true c6
    clear c6
    have H' := Aside0.mk H
    clear H
    have hcz7_0 : w3.cell? ⟨gb222, 0, none⟩ = some (.int .i64 a0_0) := (blk_cell BK222.out 0).trans rfl
    have hcz7_1 : w3.cell? ⟨gb222, 1, none⟩ = some (.int .i64 a0_1) := (blk_cell BK222.out 1).trans rfl
    have hcz7_2 : w3.cell? ⟨gb222, 2, none⟩ = some (.int .i64 a0_2) := (blk_cell BK222.out 2).trans rfl
    have hfz7_0 := blk_frozen BK222.out 0
    have hfz7_1 := blk_frozen BK222.out 1
    have hfz7_2 := blk_frozen BK222.out 2
    go_wp2
    repeat (go_quiet (fail); try go_wp2)
    go_meet
    case rel => exact ⟨_, (true), (by first | rfl | (simp; done) | (simp [*]; done) | (refine congrArg (Value.int .i64) ?_; unfold wrap64; omega) | (simp only [shl_one_small _ (by assumption) (by omega)]; done) | (simp [*]; rw [shl_one_small _ (by assumption) (by omega)]; done)), H', ⟨by first | omega | exact Nat.le_refl _⟩, ⟨by (with_reducible repeat (first | refine blk_drewN ?_ _ | refine blk_drew ?_ | refine blk_alloc ?_ _)); exact BK222.out⟩, ⟨by repeat (first | (with_reducible first | exact HB.out | apply below_alloc | apply pw_below_drewN | apply below_drew1 | refine below_set ?_ GE222.out) | exact HB.out)⟩⟩
   ·rw [if_neg c6] at H
    have c6b0 : decide (2173 < a0_0) = false := decide_eq_false c6
    clear c6
    by_cases c8 : a0_1 < 1
    ·rw [if_pos c8] at H
     have c8b0 : decide (a0_1 < 1) = true := decide_eq_true c8
     clear c8
     have H' := Aside0.mk H
     clear H
     have hcz9_0 : w3.cell? ⟨gb222, 0, none⟩ = some (.int .i64 a0_0) := (blk_cell BK222.out 0).trans rfl
     have hcz9_1 : w3.cell? ⟨gb222, 1, none⟩ = some (.int .i64 a0_1) := (blk_cell BK222.out 1).trans rfl
     have hcz9_2 : w3.cell? ⟨gb222, 2, none⟩ = some (.int .i64 a0_2) := (blk_cell BK222.out 2).trans rfl
     have hfz9_0 := blk_frozen BK222.out 0
     have hfz9_1 := blk_frozen BK222.out 1
     have hfz9_2 := blk_frozen BK222.out 2
     go_wp2
     repeat (go_quiet (fail); try go_wp2)
     go_meet
     case rel => exact ⟨_, (true), (by first | rfl | (simp; done) | (simp [*]; done) | (refine congrArg (Value.int .i64) ?_; unfold wrap64; omega) | (simp only [shl_one_small _ (by assumption) (by omega)]; done) | (simp [*]; rw [shl_one_small _ (by assumption) (by omega)]; done)), H', ⟨by first | omega | exact Nat.le_refl _⟩, ⟨by (with_reducible repeat (first | refine blk_drewN ?_ _ | refine blk_drew ?_ | refine blk_alloc ?_ _)); exact BK222.out⟩, ⟨by repeat (first | (with_reducible first | exact HB.out | apply below_alloc | apply pw_below_drewN | apply below_drew1 | refine below_set ?_ GE222.out) | exact HB.out)⟩⟩
    ·rw [if_neg c8] at H
     have c8b0 : decide (a0_1 < 1) = false := decide_eq_false c8
     clear c8
     have H' := Aside0.mk H
     clear H
     have hcz10_0 : w3.cell? ⟨gb222, 0, none⟩ = some (.int .i64 a0_0) := (blk_cell BK222.out 0).trans rfl
     have hcz10_1 : w3.cell? ⟨gb222, 1, none⟩ = some (.int .i64 a0_1) := (blk_cell BK222.out 1).trans rfl
     have hcz10_2 : w3.cell? ⟨gb222, 2, none⟩ = some (.int .i64 a0_2) := (blk_cell BK222.out 2).trans rfl
     have hfz10_0 := blk_frozen BK222.out 0
     have hfz10_1 := blk_frozen BK222.out 1
     have hfz10_2 := blk_frozen BK222.out 2
     go_wp2
     repeat (go_quiet (fail); try go_wp2)
     go_meet
     case rel => exact ⟨_, (decide (a0_1 > 12)), (by first | rfl | (simp; done) | (simp [*]; done) | (refine congrArg (Value.int .i64) ?_; unfold wrap64; omega) | (simp only [shl_one_small _ (by assumption) (by omega)]; done) | (simp [*]; rw [shl_one_small _ (by assumption) (by omega)]; done)), H', ⟨by first | omega | exact Nat.le_refl _⟩, ⟨by (with_reducible repeat (first | refine blk_drewN ?_ _ | refine blk_drew ?_ | refine blk_alloc ?_ _)); exact BK222.out⟩, ⟨by repeat (first | (with_reducible first | exact HB.out | apply below_alloc | apply pw_below_drewN | apply below_drew1 | refine below_set ?_ GE222.out) | exact HB.out)⟩⟩
 case rest =>
  clear HC2
  try clear c4
  try clear c6
  try clear c8
  obtain ⟨kq, x25_1, rfl, HA, HJ1, BK222, HB⟩ := hcut
  cases kq with
  | zero => exact absurd HA.out (by simp [roll_Day.j0])
  | succ kj1 =>
   have H := HA.out
   clear HA
   simp only [roll_Day.j0] at H
   by_cases c11 : x25_1 = true
   ·subst c11
    have H1 : (some (0, 1)) = some (r1, r2) := by rw [if_pos rfl] at H; exact H
    clear H
    have H := H1
    clear H1
    simp only [Option.some.injEq, Prod.mk.injEq] at H
    obtain ⟨rfl, rfl⟩ := H
    go_wp2
    repeat (go_quiet (fail); try go_wp2)
    go_ret2
    exact ⟨by first | rfl | (simp [errW_none, errW_some] <;> rfl) | (simp [*, errW_none, errW_some] <;> rfl), by repeat (first | (with_reducible first | exact HB.out | apply below_alloc | apply pw_below_drewN | apply below_drew1 | refine below_set ?_ GE222.out) | exact HB.out)⟩
   ·replace c11 := Bool.eq_false_iff.mpr c11
    subst c11
    have H1 : ((roll_months.f a0_0).bind fun bt223 => (if a0_2 < 1 then (roll_Day.j1 kj1 true a0_0 a0_1 a0_2 bt223.1 bt223.2.1 bt223.2.2.1 bt223.2.2.2.1 bt223.2.2.2.2.1 bt223.2.2.2.2.2.1 bt223.2.2.2.2.2.2.1 bt223.2.2.2.2.2.2.2.1 bt223.2.2.2.2.2.2.2.2.1 bt223.2.2.2.2.2.2.2.2.2.1 bt223.2.2.2.2.2.2.2.2.2.2.1 bt223.2.2.2.2.2.2.2.2.2.2.2) else (if 0 ≤ (wrap64 (a0_1 - 1)) then (if (wrap64 (a0_1 - 1)) < 12 then (roll_Day.j1 kj1 (decide (a0_2 > (rd [bt223.1, bt223.2.1, bt223.2.2.1, bt223.2.2.2.1, bt223.2.2.2.2.1, bt223.2.2.2.2.2.1, bt223.2.2.2.2.2.2.1, bt223.2.2.2.2.2.2.2.1, bt223.2.2.2.2.2.2.2.2.1, bt223.2.2.2.2.2.2.2.2.2.1, bt223.2.2.2.2.2.2.2.2.2.2.1, bt223.2.2.2.2.2.2.2.2.2.2.2] (wrap64 (a0_1 - 1))))) a0_0 a0_1 a0_2 bt223.1 bt223.2.1 bt223.2.2.1 bt223.2.2.2.1 bt223.2.2.2.2.1 bt223.2.2.2.2.2.1 bt223.2.2.2.2.2.2.1 bt223.2.2.2.2.2.2.2.1 bt223.2.2.2.2.2.2.2.2.1 bt223.2.2.2.2.2.2.2.2.2.1 bt223.2.2.2.2.2.2.2.2.2.2.1 bt223.2.2.2.2.2.2.2.2.2.2.2) else (none)) else (none)))) = some (r1, r2) := by rw [if_neg (show ¬ (false = true) by decide)] at H; exact H
    clear H
    have H := H1
    clear H1
    replace H := Option.bind_eq_some_iff.mp H
    obtain ⟨⟨t223, t224, t225, t226, t227, t228, t229, t230, t231, t232, t233, t234⟩, A120, H⟩ := H
    replace H : (if a0_2 < 1 then (roll_Day.j1 kj1 true a0_0 a0_1 a0_2 t223 t224 t225 t226 t227 t228 t229 t230 t231 t232 t233 t234) else (if 0 ≤ (wrap64 (a0_1 - 1)) then (if (wrap64 (a0_1 - 1)) < 12 then (roll_Day.j1 kj1 (decide (a0_2 > (rd [t223, t224, t225, t226, t227, t228, t229, t230, t231, t232, t233, t234] (wrap64 (a0_1 - 1))))) a0_0 a0_1 a0_2 t223 t224 t225 t226 t227 t228 t229 t230 t231 t232 t233 t234) else (none)) else (none))) = some (r1, r2) := H
    have A12 := Aside0.mk A120
    clear A120
    have HC13 := Aside0.mk H
    clear H
    have hcz14_0 : wc.cell? ⟨gb222, 0, none⟩ = some (.int .i64 a0_0) := (blk_cell BK222.out 0).trans rfl
    have hcz14_1 : wc.cell? ⟨gb222, 1, none⟩ = some (.int .i64 a0_1) := (blk_cell BK222.out 1).trans rfl
    have hcz14_2 : wc.cell? ⟨gb222, 2, none⟩ = some (.int .i64 a0_2) := (blk_cell BK222.out 2).trans rfl
    have hfz14_0 := blk_frozen BK222.out 0
    have hfz14_1 := blk_frozen BK222.out 1
    have hfz14_2 := blk_frozen BK222.out 2
    go_upto_region 4 with (first | (go_at_call 36; (with_reducible refine (roll_months.calls a0_0 t223 t224 t225 t226 t227 t228 t229 t230 t231 t232 t233 t234 _ A12.out).mono ?_); rintro e w15 ⟨rfl, hb⟩; have n0_ := Aside0.mk (blk_below (g := gb222) (o := .cells #[.int .i64 a0_0, .int .i64 a0_1, .int .i64 a0_2] 23 (0, 0)) (by (with_reducible repeat (first | refine blk_drewN ?_ _ | refine blk_drew ?_ | refine blk_alloc ?_ _)); exact BK222.out) hb); have n1_ := Aside0.mk (below_step (by repeat (first | (with_reducible first | exact HB.out | apply below_alloc | apply pw_below_drewN | apply below_drew1 | refine below_set ?_ GE222.out) | exact HB.out)) hb); clear BK222; clear HB; have BK222 := n0_; have HB := n1_; clear n0_ n1_; (try clear hb); (try clear hb2); (try clear hk); (try clear hi)) | ((with_reducible refine gate_dst (N := 4) rfl ?_); refine box_event ?hg (N := 4) ?hd (cs := #[.int .i64 0, .int .i64 0, .int .i64 0, .int .i64 0, .int .i64 0, .int .i64 0, .int .i64 0, .int .i64 0, .int .i64 0, .int .i64 0, .int .i64 0, .int .i64 0]) (t := 57) ?hr ?_; (case hd => rfl); (case hg => rfl); (case hr => first | (go_simp; done) | (go_simp; rfl)); intro gb235 hg w16 hbox hb; have n0_ := Aside0.mk (blk_below (g := gb222) (o := .cells #[.int .i64 a0_0, .int .i64 a0_1, .int .i64 a0_2] 23 (0, 0)) (by (with_reducible repeat (first | refine blk_drewN ?_ _ | refine blk_drew ?_ | refine blk_alloc ?_ _)); exact BK222.out) hb); have n1_ := Aside0.mk (below_step (by repeat (first | (with_reducible first | exact HB.out | apply below_alloc | apply pw_below_drewN | apply below_drew1 | refine below_set ?_ GE222.out) | exact HB.out)) hb); have n2_ := Aside0.mk (hbox); have n3_ := Aside0.mk ((by rw [hg]; exact (below_size (by repeat (first | (with_reducible first | exact HB.out | apply below_alloc | apply pw_below_drewN | apply below_drew1 | refine below_set ?_ GE222.out) | exact HB.out))) : w.heap.size ≤ gb235)); have n4_ := Aside0.mk ((by rw [hg]; exact (below_size (by repeat (first | (with_reducible first | exact HB.out | apply below_alloc | apply pw_below_drewN | apply below_drew1 | refine below_set ?_ GE222.out) | exact HB.out))) : w.heap.size ≤ gb235)); have n5_ := Aside0.mk ((by rw [hg]; exact Nat.ne_of_lt (blk_lt (g := gb222) (o := .cells #[.int .i64 a0_0, .int .i64 a0_1, .int .i64 a0_2] 23 (0, 0)) (by (with_reducible repeat (first | refine blk_drewN ?_ _ | refine blk_drew ?_ | refine blk_alloc ?_ _)); exact BK222.out)) : gb222 ≠ gb235)); have n6_ := Aside0.mk ((by rw [hg]; exact Nat.ne_of_gt (blk_lt (g := gb222) (o := .cells #[.int .i64 a0_0, .int .i64 a0_1, .int .i64 a0_2] 23 (0, 0)) (by (with_reducible repeat (first | refine blk_drewN ?_ _ | refine blk_drew ?_ | refine blk_alloc ?_ _)); exact BK222.out)) : gb235 ≠ gb222)); clear BK222; clear HB; have BK222 := n0_; have HB := n1_; have BK235 := n2_; have GW235 := n3_; have GE235 := n4_; have NB222_235 := n5_; have NB235_222 := n6_; clear n0_ n1_ n2_ n3_ n4_ n5_ n6_; clear hb hbox hg) | ((with_reducible refine gate_store (t := 57) (p := 4) rfl ?_); (try (rw [drewN_self w16]; generalize hq_ : World.drewN w16 _ = w16; have n0_ := Aside0.mk (blk_at hq_ BK222.out); have n1_ := Aside0.mk (blk_at hq_ BK235.out); have n2_ := Aside0.mk (below_at hq_ HB.out); clear hq_ BK222 BK235 HB; have BK222 := n0_; have BK235 := n1_; have HB := n2_; clear n0_ n1_ n2_)); (try simp only [Act.put, List.setIfInBounds_toArray, List.set_cons_zero, List.set_cons_succ]); refine storeall_event (t := 57) (p := 4) (x := ?vo_w17) (g := gb235) (T := 57) (cs := #[.int .i64 0, .int .i64 0, .int .i64 0, .int .i64 0, .int .i64 0, .int .i64 0, .int .i64 0, .int .i64 0, .int .i64 0, .int .i64 0, .int .i64 0, .int .i64 0]) (new := #[.int .i64 t223, .int .i64 t224, .int .i64 t225, .int .i64 t226, .int .i64 t227, .int .i64 t228, .int .i64 t229, .int .i64 t230, .int .i64 t231, .int .i64 t232, .int .i64 t233, .int .i64 t234]) ?hg ?ho ?hn ?hp ?hx ?hi ?hs ?h1 ?hb ?_; (case ho => rfl); (case hg => rfl); (case hn => rfl); (case hp => rfl); (case hx => first | rfl | (go_simp; done)); (case hi => kernel_rfl); (case hs => rfl); (case h1 => (intro v_ hv_; simp only [List.mem_cons, List.not_mem_nil, or_false] at hv_; rcases hv_ with rfl | rfl | rfl | rfl | rfl | rfl | rfl | rfl | rfl | rfl | rfl | rfl <;> rfl)); (case hb => exact by (with_reducible repeat (first | refine blk_drewN ?_ _ | refine blk_drew ?_ | refine blk_alloc ?_ _)); exact BK235.out); intro w17 hbox hoth hbel; have n0_ := Aside0.mk ((hoth gb222 NB222_235.out).trans (by (with_reducible repeat (first | refine blk_drewN ?_ _ | refine blk_drew ?_ | refine blk_alloc ?_ _)); exact BK222.out)); have n1_ := Aside0.mk (hbox); have n2_ := Aside0.mk (hbel (by repeat (first | (with_reducible first | exact HB.out | apply below_alloc | apply pw_below_drewN | apply below_drew1 | refine below_set ?_ GE222.out | refine below_set ?_ GE235.out) | exact HB.out)) GE235.out); clear BK222; clear BK235; clear HB; have BK222 := n0_; have BK235 := n1_; have HB := n2_; clear n0_ n1_ n2_; clear hbox hoth hbel))
    repeat (go_quiet (first | (go_at_call 36; (with_reducible refine (roll_months.calls a0_0 t223 t224 t225 t226 t227 t228 t229 t230 t231 t232 t233 t234 _ A12.out).mono ?_); rintro e w15 ⟨rfl, hb⟩; have n0_ := Aside0.mk (blk_below (g := gb222) (o := .cells #[.int .i64 a0_0, .int .i64 a0_1, .int .i64 a0_2] 23 (0, 0)) (by (with_reducible repeat (first | refine blk_drewN ?_ _ | refine blk_drew ?_ | refine blk_alloc ?_ _)); exact BK222.out) hb); have n1_ := Aside0.mk (below_step (by repeat (first | (with_reducible first | exact HB.out | apply below_alloc | apply pw_below_drewN | apply below_drew1 | refine below_set ?_ GE222.out) | exact HB.out)) hb); clear BK222; clear HB; have BK222 := n0_; have HB := n1_; clear n0_ n1_; (try clear hb); (try clear hb2); (try clear hk); (try clear hi)) | ((with_reducible refine gate_dst (N := 4) rfl ?_); refine box_event ?hg (N := 4) ?hd (cs := #[.int .i64 0, .int .i64 0, .int .i64 0, .int .i64 0, .int .i64 0, .int .i64 0, .int .i64 0, .int .i64 0, .int .i64 0, .int .i64 0, .int .i64 0, .int .i64 0]) (t := 57) ?hr ?_; (case hd => rfl); (case hg => rfl); (case hr => first | (go_simp; done) | (go_simp; rfl)); intro gb235 hg w16 hbox hb; have n0_ := Aside0.mk (blk_below (g := gb222) (o := .cells #[.int .i64 a0_0, .int .i64 a0_1, .int .i64 a0_2] 23 (0, 0)) (by (with_reducible repeat (first | refine blk_drewN ?_ _ | refine blk_drew ?_ | refine blk_alloc ?_ _)); exact BK222.out) hb); have n1_ := Aside0.mk (below_step (by repeat (first | (with_reducible first | exact HB.out | apply below_alloc | apply pw_below_drewN | apply below_drew1 | refine below_set ?_ GE222.out) | exact HB.out)) hb); have n2_ := Aside0.mk (hbox); have n3_ := Aside0.mk ((by rw [hg]; exact (below_size (by repeat (first | (with_reducible first | exact HB.out | apply below_alloc | apply pw_below_drewN | apply below_drew1 | refine below_set ?_ GE222.out) | exact HB.out))) : w.heap.size ≤ gb235)); have n4_ := Aside0.mk ((by rw [hg]; exact (below_size (by repeat (first | (with_reducible first | exact HB.out | apply below_alloc | apply pw_below_drewN | apply below_drew1 | refine below_set ?_ GE222.out) | exact HB.out))) : w.heap.size ≤ gb235)); have n5_ := Aside0.mk ((by rw [hg]; exact Nat.ne_of_lt (blk_lt (g := gb222) (o := .cells #[.int .i64 a0_0, .int .i64 a0_1, .int .i64 a0_2] 23 (0, 0)) (by (with_reducible repeat (first | refine blk_drewN ?_ _ | refine blk_drew ?_ | refine blk_alloc ?_ _)); exact BK222.out)) : gb222 ≠ gb235)); have n6_ := Aside0.mk ((by rw [hg]; exact Nat.ne_of_gt (blk_lt (g := gb222) (o := .cells #[.int .i64 a0_0, .int .i64 a0_1, .int .i64 a0_2] 23 (0, 0)) (by (with_reducible repeat (first | refine blk_drewN ?_ _ | refine blk_drew ?_ | refine blk_alloc ?_ _)); exact BK222.out)) : gb235 ≠ gb222)); clear BK222; clear HB; have BK222 := n0_; have HB := n1_; have BK235 := n2_; have GW235 := n3_; have GE235 := n4_; have NB222_235 := n5_; have NB235_222 := n6_; clear n0_ n1_ n2_ n3_ n4_ n5_ n6_; clear hb hbox hg) | ((with_reducible refine gate_store (t := 57) (p := 4) rfl ?_); (try (rw [drewN_self w16]; generalize hq_ : World.drewN w16 _ = w16; have n0_ := Aside0.mk (blk_at hq_ BK222.out); have n1_ := Aside0.mk (blk_at hq_ BK235.out); have n2_ := Aside0.mk (below_at hq_ HB.out); clear hq_ BK222 BK235 HB; have BK222 := n0_; have BK235 := n1_; have HB := n2_; clear n0_ n1_ n2_)); (try simp only [Act.put, List.setIfInBounds_toArray, List.set_cons_zero, List.set_cons_succ]); refine storeall_event (t := 57) (p := 4) (x := ?vo_w17) (g := gb235) (T := 57) (cs := #[.int .i64 0, .int .i64 0, .int .i64 0, .int .i64 0, .int .i64 0, .int .i64 0, .int .i64 0, .int .i64 0, .int .i64 0, .int .i64 0, .int .i64 0, .int .i64 0]) (new := #[.int .i64 t223, .int .i64 t224, .int .i64 t225, .int .i64 t226, .int .i64 t227, .int .i64 t228, .int .i64 t229, .int .i64 t230, .int .i64 t231, .int .i64 t232, .int .i64 t233, .int .i64 t234]) ?hg ?ho ?hn ?hp ?hx ?hi ?hs ?h1 ?hb ?_; (case ho => rfl); (case hg => rfl); (case hn => rfl); (case hp => rfl); (case hx => first | rfl | (go_simp; done)); (case hi => kernel_rfl); (case hs => rfl); (case h1 => (intro v_ hv_; simp only [List.mem_cons, List.not_mem_nil, or_false] at hv_; rcases hv_ with rfl | rfl | rfl | rfl | rfl | rfl | rfl | rfl | rfl | rfl | rfl | rfl <;> rfl)); (case hb => exact by (with_reducible repeat (first | refine blk_drewN ?_ _ | refine blk_drew ?_ | refine blk_alloc ?_ _)); exact BK235.out); intro w17 hbox hoth hbel; have n0_ := Aside0.mk ((hoth gb222 NB222_235.out).trans (by (with_reducible repeat (first | refine blk_drewN ?_ _ | refine blk_drew ?_ | refine blk_alloc ?_ _)); exact BK222.out)); have n1_ := Aside0.mk (hbox); have n2_ := Aside0.mk (hbel (by repeat (first | (with_reducible first | exact HB.out | apply below_alloc | apply pw_below_drewN | apply below_drew1 | refine below_set ?_ GE222.out | refine below_set ?_ GE235.out) | exact HB.out)) GE235.out); clear BK222; clear BK235; clear HB; have BK222 := n0_; have BK235 := n1_; have HB := n2_; clear n0_ n1_ n2_; clear hbox hoth hbel)); go_upto_region 4 with (first | (go_at_call 36; (with_reducible refine (roll_months.calls a0_0 t223 t224 t225 t226 t227 t228 t229 t230 t231 t232 t233 t234 _ A12.out).mono ?_); rintro e w15 ⟨rfl, hb⟩; have n0_ := Aside0.mk (blk_below (g := gb222) (o := .cells #[.int .i64 a0_0, .int .i64 a0_1, .int .i64 a0_2] 23 (0, 0)) (by (with_reducible repeat (first | refine blk_drewN ?_ _ | refine blk_drew ?_ | refine blk_alloc ?_ _)); exact BK222.out) hb); have n1_ := Aside0.mk (below_step (by repeat (first | (with_reducible first | exact HB.out | apply below_alloc | apply pw_below_drewN | apply below_drew1 | refine below_set ?_ GE222.out) | exact HB.out)) hb); clear BK222; clear HB; have BK222 := n0_; have HB := n1_; clear n0_ n1_; (try clear hb); (try clear hb2); (try clear hk); (try clear hi)) | ((with_reducible refine gate_dst (N := 4) rfl ?_); refine box_event ?hg (N := 4) ?hd (cs := #[.int .i64 0, .int .i64 0, .int .i64 0, .int .i64 0, .int .i64 0, .int .i64 0, .int .i64 0, .int .i64 0, .int .i64 0, .int .i64 0, .int .i64 0, .int .i64 0]) (t := 57) ?hr ?_; (case hd => rfl); (case hg => rfl); (case hr => first | (go_simp; done) | (go_simp; rfl)); intro gb235 hg w16 hbox hb; have n0_ := Aside0.mk (blk_below (g := gb222) (o := .cells #[.int .i64 a0_0, .int .i64 a0_1, .int .i64 a0_2] 23 (0, 0)) (by (with_reducible repeat (first | refine blk_drewN ?_ _ | refine blk_drew ?_ | refine blk_alloc ?_ _)); exact BK222.out) hb); have n1_ := Aside0.mk (below_step (by repeat (first | (with_reducible first | exact HB.out | apply below_alloc | apply pw_below_drewN | apply below_drew1 | refine below_set ?_ GE222.out) | exact HB.out)) hb); have n2_ := Aside0.mk (hbox); have n3_ := Aside0.mk ((by rw [hg]; exact (below_size (by repeat (first | (with_reducible first | exact HB.out | apply below_alloc | apply pw_below_drewN | apply below_drew1 | refine below_set ?_ GE222.out) | exact HB.out))) : w.heap.size ≤ gb235)); have n4_ := Aside0.mk ((by rw [hg]; exact (below_size (by repeat (first | (with_reducible first | exact HB.out | apply below_alloc | apply pw_below_drewN | apply below_drew1 | refine below_set ?_ GE222.out) | exact HB.out))) : w.heap.size ≤ gb235)); have n5_ := Aside0.mk ((by rw [hg]; exact Nat.ne_of_lt (blk_lt (g := gb222) (o := .cells #[.int .i64 a0_0, .int .i64 a0_1, .int .i64 a0_2] 23 (0, 0)) (by (with_reducible repeat (first | refine blk_drewN ?_ _ | refine blk_drew ?_ | refine blk_alloc ?_ _)); exact BK222.out)) : gb222 ≠ gb235)); have n6_ := Aside0.mk ((by rw [hg]; exact Nat.ne_of_gt (blk_lt (g := gb222) (o := .cells #[.int .i64 a0_0, .int .i64 a0_1, .int .i64 a0_2] 23 (0, 0)) (by (with_reducible repeat (first | refine blk_drewN ?_ _ | refine blk_drew ?_ | refine blk_alloc ?_ _)); exact BK222.out)) : gb235 ≠ gb222)); clear BK222; clear HB; have BK222 := n0_; have HB := n1_; have BK235 := n2_; have GW235 := n3_; have GE235 := n4_; have NB222_235 := n5_; have NB235_222 := n6_; clear n0_ n1_ n2_ n3_ n4_ n5_ n6_; clear hb hbox hg) | ((with_reducible refine gate_store (t := 57) (p := 4) rfl ?_); (try (rw [drewN_self w16]; generalize hq_ : World.drewN w16 _ = w16; have n0_ := Aside0.mk (blk_at hq_ BK222.out); have n1_ := Aside0.mk (blk_at hq_ BK235.out); have n2_ := Aside0.mk (below_at hq_ HB.out); clear hq_ BK222 BK235 HB; have BK222 := n0_; have BK235 := n1_; have HB := n2_; clear n0_ n1_ n2_)); (try simp only [Act.put, List.setIfInBounds_toArray, List.set_cons_zero, List.set_cons_succ]); refine storeall_event (t := 57) (p := 4) (x := ?vo_w17) (g := gb235) (T := 57) (cs := #[.int .i64 0, .int .i64 0, .int .i64 0, .int .i64 0, .int .i64 0, .int .i64 0, .int .i64 0, .int .i64 0, .int .i64 0, .int .i64 0, .int .i64 0, .int .i64 0]) (new := #[.int .i64 t223, .int .i64 t224, .int .i64 t225, .int .i64 t226, .int .i64 t227, .int .i64 t228, .int .i64 t229, .int .i64 t230, .int .i64 t231, .int .i64 t232, .int .i64 t233, .int .i64 t234]) ?hg ?ho ?hn ?hp ?hx ?hi ?hs ?h1 ?hb ?_; (case ho => rfl); (case hg => rfl); (case hn => rfl); (case hp => rfl); (case hx => first | rfl | (go_simp; done)); (case hi => kernel_rfl); (case hs => rfl); (case h1 => (intro v_ hv_; simp only [List.mem_cons, List.not_mem_nil, or_false] at hv_; rcases hv_ with rfl | rfl | rfl | rfl | rfl | rfl | rfl | rfl | rfl | rfl | rfl | rfl <;> rfl)); (case hb => exact by (with_reducible repeat (first | refine blk_drewN ?_ _ | refine blk_drew ?_ | refine blk_alloc ?_ _)); exact BK235.out); intro w17 hbox hoth hbel; have n0_ := Aside0.mk ((hoth gb222 NB222_235.out).trans (by (with_reducible repeat (first | refine blk_drewN ?_ _ | refine blk_drew ?_ | refine blk_alloc ?_ _)); exact BK222.out)); have n1_ := Aside0.mk (hbox); have n2_ := Aside0.mk (hbel (by repeat (first | (with_reducible first | exact HB.out | apply below_alloc | apply pw_below_drewN | apply below_drew1 | refine below_set ?_ GE222.out | refine below_set ?_ GE235.out) | exact HB.out)) GE235.out); clear BK222; clear BK235; clear HB; have BK222 := n0_; have BK235 := n1_; have HB := n2_; clear n0_ n1_ n2_; clear hbox hoth hbel)))
    (try simp only [Act.put, List.setIfInBounds_toArray, List.set_cons_zero, List.set_cons_succ])
    go_cut [41] (fun v41 wc => ∃ (kq : Nat) (x41_12 : Bool), v41 = .bool x41_12 ∧ Aside0 (roll_Day.j1 kq x41_12 a0_0 a0_1 a0_2 t223 t224 t225 t226 t227 t228 t229 t230 t231 t232 t233 t234 = some (r1, r2)) ∧ Aside0 (kq ≤ kj1) ∧ Aside0 (wc.heap[gb222]? = some (.cells #[.int .i64 a0_0, .int .i64 a0_1, .int .i64 a0_2] 23 (0, 0))) ∧ Aside0 (wc.heap[gb235]? = some (.cells #[.int .i64 t223, .int .i64 t224, .int .i64 t225, .int .i64 t226, .int .i64 t227, .int .i64 t228, .int .i64 t229, .int .i64 t230, .int .i64 t231, .int .i64 t232, .int .i64 t233, .int .i64 t234] 57 (0, 0))) ∧ Aside0 (Below w.heap.size w wc))
    case first =>
     have H := HC13.out
     clear HC13
     by_cases c18 : a0_2 < 1
     ·rw [if_pos c18] at H
      have c18b0 : decide (a0_2 < 1) = true := decide_eq_true c18
      clear c18
      (first | rw [c18b0] | (simp only [i64_w, i32_w]; rw [c18b0]) | skip)
      have H' := Aside0.mk H
      clear H
      have hnb19 := NB222_235.out
      have hnc19 := NB235_222.out
      have hcz20_0 : w17.cell? ⟨gb222, 0, none⟩ = some (.int .i64 a0_0) := (blk_cell BK222.out 0).trans rfl
      have hcz20_1 : w17.cell? ⟨gb222, 1, none⟩ = some (.int .i64 a0_1) := (blk_cell BK222.out 1).trans rfl
      have hcz20_2 : w17.cell? ⟨gb222, 2, none⟩ = some (.int .i64 a0_2) := (blk_cell BK222.out 2).trans rfl
      have hfz20_0 := blk_frozen BK222.out 0
      have hfz20_1 := blk_frozen BK222.out 1
      have hfz20_2 := blk_frozen BK222.out 2
      go_wp2
      repeat (go_quiet (fail); try go_wp2)
      go_meet
      case rel => exact ⟨_, (true), (by first | rfl | (simp; done) | (simp [*]; done) | (refine congrArg (Value.int .i64) ?_; unfold wrap64; omega) | (simp only [shl_one_small _ (by assumption) (by omega)]; done) | (simp [*]; rw [shl_one_small _ (by assumption) (by omega)]; done)), H', ⟨by have := HJ1.out; first | omega | exact Nat.le_refl _⟩, ⟨by (with_reducible repeat (first | refine blk_drewN ?_ _ | refine blk_drew ?_ | refine blk_alloc ?_ _)); exact BK222.out⟩, ⟨by (with_reducible repeat (first | refine blk_drewN ?_ _ | refine blk_drew ?_ | refine blk_alloc ?_ _)); exact BK235.out⟩, ⟨by repeat (first | (with_reducible first | exact HB.out | apply below_alloc | apply pw_below_drewN | apply below_drew1 | refine below_set ?_ GE222.out | refine below_set ?_ GE235.out) | exact HB.out)⟩⟩
     ·rw [if_neg c18] at H
      have c18b0 : decide (a0_2 < 1) = false := decide_eq_false c18
      clear c18
      (first | rw [c18b0] | (simp only [i64_w, i32_w]; rw [c18b0]) | skip)
      obtain ⟨ji21, hji21⟩ : ∃ j_ : Int, (wrap64 (a0_1 - 1)) = j_ := ⟨_, rfl⟩
      replace H : (if 0 ≤ (ji21) then (if (ji21) < 12 then (roll_Day.j1 kj1 (decide (a0_2 > (rd [t223, t224, t225, t226, t227, t228, t229, t230, t231, t232, t233, t234] (ji21)))) a0_0 a0_1 a0_2 t223 t224 t225 t226 t227 t228 t229 t230 t231 t232 t233 t234) else (none)) else (none)) = some (r1, r2) := by first | (rw [hji21] at H; exact H) | (simp only [hji21] at H ⊢; exact H)
      have hji21w : (IntKind.i64.wrap (a0_1 - 1)) = ji21 := (i64_w _).trans hji21
      by_cases c22 : 0 ≤ (ji21)
      ·rw [if_pos c22] at H
       have c22b0 : decide (0 ≤ (ji21)) = true := decide_eq_true c22
       clear c22
       by_cases c23 : (ji21) < 12
       ·rw [if_pos c23] at H
        have c23b0 : decide ((ji21) < 12) = true := decide_eq_true c23
        clear c23
        have H' := Aside0.mk H
        clear H
        have hnb24 := NB222_235.out
        have hnc24 := NB235_222.out
        have hcz25_0 : w17.cell? ⟨gb222, 0, none⟩ = some (.int .i64 a0_0) := (blk_cell BK222.out 0).trans rfl
        have hcz25_1 : w17.cell? ⟨gb222, 1, none⟩ = some (.int .i64 a0_1) := (blk_cell BK222.out 1).trans rfl
        have hcz25_2 : w17.cell? ⟨gb222, 2, none⟩ = some (.int .i64 a0_2) := (blk_cell BK222.out 2).trans rfl
        have hfz25_0 := blk_frozen BK222.out 0
        have hfz25_1 := blk_frozen BK222.out 1
        have hfz25_2 := blk_frozen BK222.out 2
        have hcz27_0 : w17.cell? ⟨gb235, 0, none⟩ = some (.int .i64 t223) := (blk_cell BK235.out 0).trans rfl
        have hcz27_1 : w17.cell? ⟨gb235, 1, none⟩ = some (.int .i64 t224) := (blk_cell BK235.out 1).trans rfl
        have hcz27_2 : w17.cell? ⟨gb235, 2, none⟩ = some (.int .i64 t225) := (blk_cell BK235.out 2).trans rfl
        have hcz27_3 : w17.cell? ⟨gb235, 3, none⟩ = some (.int .i64 t226) := (blk_cell BK235.out 3).trans rfl
        have hcz27_4 : w17.cell? ⟨gb235, 4, none⟩ = some (.int .i64 t227) := (blk_cell BK235.out 4).trans rfl
        have hcz27_5 : w17.cell? ⟨gb235, 5, none⟩ = some (.int .i64 t228) := (blk_cell BK235.out 5).trans rfl
        have hcz27_6 : w17.cell? ⟨gb235, 6, none⟩ = some (.int .i64 t229) := (blk_cell BK235.out 6).trans rfl
        have hcz27_7 : w17.cell? ⟨gb235, 7, none⟩ = some (.int .i64 t230) := (blk_cell BK235.out 7).trans rfl
        have hcz27_8 : w17.cell? ⟨gb235, 8, none⟩ = some (.int .i64 t231) := (blk_cell BK235.out 8).trans rfl
        have hcz27_9 : w17.cell? ⟨gb235, 9, none⟩ = some (.int .i64 t232) := (blk_cell BK235.out 9).trans rfl
        have hcz27_10 : w17.cell? ⟨gb235, 10, none⟩ = some (.int .i64 t233) := (blk_cell BK235.out 10).trans rfl
        have hcz27_11 : w17.cell? ⟨gb235, 11, none⟩ = some (.int .i64 t234) := (blk_cell BK235.out 11).trans rfl
        have hfz27_0 := blk_frozen BK235.out 0
        have hfz27_1 := blk_frozen BK235.out 1
        have hfz27_2 := blk_frozen BK235.out 2
        have hfz27_3 := blk_frozen BK235.out 3
        have hfz27_4 := blk_frozen BK235.out 4
        have hfz27_5 := blk_frozen BK235.out 5
        have hfz27_6 := blk_frozen BK235.out 6
        have hfz27_7 := blk_frozen BK235.out 7
        have hfz27_8 := blk_frozen BK235.out 8
        have hfz27_9 := blk_frozen BK235.out 9
        have hfz27_10 := blk_frozen BK235.out 10
        have hfz27_11 := blk_frozen BK235.out 11
        have pr26 : 0 ≤ ((ji21) : Int) := of_decide_eq_true (by first | (with_reducible assumption) | assumption)
        have qr26 : ((ji21) : Int) < 12 := of_decide_eq_true (by first | (with_reducible assumption) | assumption)
        have har26_0 : w17.cell? ⟨gb235, ((ji21) : Int).toNat, none⟩ = some (.int .i64 (rd [t223, t224, t225, t226, t227, t228, t229, t230, t231, t232, t233, t234] (ji21))) := (blk_cell BK235.out _).trans (arr_at .i64 [t223, t224, t225, t226, t227, t228, t229, t230, t231, t232, t233, t234] (ji21) pr26 qr26)
        go_wp2
        repeat (go_quiet (fail); try go_wp2)
        go_meet
        case rel => exact ⟨_, (decide (a0_2 > (rd [t223, t224, t225, t226, t227, t228, t229, t230, t231, t232, t233, t234] (ji21)))), (by first | rfl | (simp; done) | (simp only [← hji21]; rw [shl_one_small _ (by assumption) (by omega)]; done) | (simp only [← hji21] <;> (first | rfl | simp)) | (simp [*]; done) | (refine congrArg (Value.int .i64) ?_; unfold wrap64; omega) | (simp only [shl_one_small _ (by assumption) (by omega)]; done) | (simp [*]; rw [shl_one_small _ (by assumption) (by omega)]; done)), H', ⟨by have := HJ1.out; first | omega | exact Nat.le_refl _⟩, ⟨by (with_reducible repeat (first | refine blk_drewN ?_ _ | refine blk_drew ?_ | refine blk_alloc ?_ _)); exact BK222.out⟩, ⟨by (with_reducible repeat (first | refine blk_drewN ?_ _ | refine blk_drew ?_ | refine blk_alloc ?_ _)); exact BK235.out⟩, ⟨by repeat (first | (with_reducible first | exact HB.out | apply below_alloc | apply pw_below_drewN | apply below_drew1 | refine below_set ?_ GE222.out | refine below_set ?_ GE235.out) | exact HB.out)⟩⟩
       ·rw [if_neg c23] at H
        exact absurd H (by simp)
      ·rw [if_neg c22] at H
       exact absurd H (by simp)
    case rest =>
     clear HC13
     try clear c4
     try clear c6
     try clear c8
     try clear c11
     try clear c18
     try clear c22
     try clear c23
     try clear hcz14_0
     try clear hcz14_1
     try clear hcz14_2
     try clear hfz14_0
     try clear hfz14_1
     try clear hfz14_2
     obtain ⟨kq, x41_12, rfl, HA, HJ12, BK222, BK235, HB⟩ := hcut
     cases kq with
     | zero => exact absurd HA.out (by simp [roll_Day.j1])
     | succ kj12 =>
      have H := HA.out
      clear HA
      simp only [roll_Day.j1] at H
      by_cases c28 : x41_12 = true
      ·subst c28
       have H1 : (some (0, 1)) = some (r1, r2) := by rw [if_pos rfl] at H; exact H
       clear H
       have H := H1
       clear H1
       simp only [Option.some.injEq, Prod.mk.injEq] at H
       obtain ⟨rfl, rfl⟩ := H
       go_wp2
       repeat (go_quiet (fail); try go_wp2)
       go_ret2
       exact ⟨by first | rfl | (simp [errW_none, errW_some] <;> rfl) | (simp [*, errW_none, errW_some] <;> rfl), by repeat (first | (with_reducible first | exact HB.out | apply below_alloc | apply pw_below_drewN | apply below_drew1 | refine below_set ?_ GE222.out | refine below_set ?_ GE235.out) | exact HB.out)⟩
      ·replace c28 := Bool.eq_false_iff.mpr c28
       subst c28
       have H1 : (roll_Day.l0 kj12 (wrap64 (a0_2 - 1)) 1900 a0_0 a0_1 a0_2 t223 t224 t225 t226 t227 t228 t229 t230 t231 t232 t233 t234) = some (r1, r2) := by rw [if_neg (show ¬ (false = true) by decide)] at H; exact H
       clear H
       have H := H1
       clear H1
       have H' := Aside0.mk H
       clear H
       have hnb29 := NB222_235.out
       have hnc29 := NB235_222.out
       have hcz30_0 : wc.cell? ⟨gb222, 0, none⟩ = some (.int .i64 a0_0) := (blk_cell BK222.out 0).trans rfl
       have hcz30_1 : wc.cell? ⟨gb222, 1, none⟩ = some (.int .i64 a0_1) := (blk_cell BK222.out 1).trans rfl
       have hcz30_2 : wc.cell? ⟨gb222, 2, none⟩ = some (.int .i64 a0_2) := (blk_cell BK222.out 2).trans rfl
       have hfz30_0 := blk_frozen BK222.out 0
       have hfz30_1 := blk_frozen BK222.out 1
       have hfz30_2 := blk_frozen BK222.out 2
       go_wp2
       repeat (go_quiet (fail); try go_wp2)
       go_loopg [5, 6] kj12 (fun kq v5 v6 w' => ∃ (x5_3 : Int) (x6_3 : Int), v5 = .int .i64 x5_3 ∧ v6 = .int .i64 x6_3 ∧ Aside0 (roll_Day.l0 kq x5_3 x6_3 a0_0 a0_1 a0_2 t223 t224 t225 t226 t227 t228 t229 t230 t231 t232 t233 t234 = some (r1, r2)) ∧ Aside0 (kq ≤ kj12) ∧ Aside0 (w'.heap[gb222]? = some (.cells #[.int .i64 a0_0, .int .i64 a0_1, .int .i64 a0_2] 23 (0, 0))) ∧ Aside0 (w'.heap[gb235]? = some (.cells #[.int .i64 t223, .int .i64 t224, .int .i64 t225, .int .i64 t226, .int .i64 t227, .int .i64 t228, .int .i64 t229, .int .i64 t230, .int .i64 t231, .int .i64 t232, .int .i64 t233, .int .i64 t234] 57 (0, 0))) ∧ Aside0 (Below w.heap.size w w'))
       case atStart => exact ⟨(wrap64 (a0_2 - 1)), (1900), (by first | rfl | (simp; done) | (simp [*]; done) | (refine congrArg (Value.int .i64) ?_; unfold wrap64; omega) | (simp only [shl_one_small _ (by assumption) (by omega)]; done) | (simp [*]; rw [shl_one_small _ (by assumption) (by omega)]; done)), (by first | rfl | (simp; done) | (simp [*]; done) | (refine congrArg (Value.int .i64) ?_; unfold wrap64; omega) | (simp only [shl_one_small _ (by assumption) (by omega)]; done) | (simp [*]; rw [shl_one_small _ (by assumption) (by omega)]; done)), H', ⟨Nat.le_refl _⟩, ⟨by (with_reducible repeat (first | refine blk_drewN ?_ _ | refine blk_drew ?_ | refine blk_alloc ?_ _)); exact BK222.out⟩, ⟨by (with_reducible repeat (first | refine blk_drewN ?_ _ | refine blk_drew ?_ | refine blk_alloc ?_ _)); exact BK235.out⟩, ⟨by repeat (first | (with_reducible first | exact HB.out | apply below_alloc | apply pw_below_drewN | apply below_drew1 | refine below_set ?_ GE222.out | refine below_set ?_ GE235.out) | exact HB.out)⟩⟩
       case round =>
        clear H'
        try clear c4
        try clear c6
        try clear c8
        try clear c11
        try clear c18
        try clear c22
        try clear c23
        try clear c28
        try clear hcz14_0
        try clear hcz14_1
        try clear hcz14_2
        try clear hcz30_0
        try clear hcz30_1
        try clear hcz30_2
        try clear hfz14_0
        try clear hfz14_1
        try clear hfz14_2
        try clear hfz30_0
        try clear hfz30_1
        try clear hfz30_2
        obtain ⟨x5_3, x6_3, rfl, rfl, HA, HK3, BK222, BK235, HB⟩ := hrel
        cases gk with
        | zero => exact absurd HA.out (by simp [roll_Day.l0])
        | succ k3 =>
         have H := HA.out
         clear HA
         simp only [roll_Day.l0] at H
         by_cases c31 : x6_3 < a0_0
         ·rw [if_pos c31] at H
          have c31b0 : decide (x6_3 < a0_0) = true := decide_eq_true c31
          clear c31
          replace H := Option.bind_eq_some_iff.mp H
          obtain ⟨t236, A320, H⟩ := H
          replace H : (roll_Day.l0 k3 (wrap64 (x5_3 + t236)) (wrap64 (x6_3 + 1)) a0_0 a0_1 a0_2 t223 t224 t225 t226 t227 t228 t229 t230 t231 t232 t233 t234) = some (r1, r2) := H
          have A32 := Aside0.mk A320
          clear A320
          have H' := Aside0.mk H
          clear H
          have hnb33 := NB222_235.out
          have hnc33 := NB235_222.out
          have hcz34_0 : wr.cell? ⟨gb222, 0, none⟩ = some (.int .i64 a0_0) := (blk_cell BK222.out 0).trans rfl
          have hcz34_1 : wr.cell? ⟨gb222, 1, none⟩ = some (.int .i64 a0_1) := (blk_cell BK222.out 1).trans rfl
          have hcz34_2 : wr.cell? ⟨gb222, 2, none⟩ = some (.int .i64 a0_2) := (blk_cell BK222.out 2).trans rfl
          have hfz34_0 := blk_frozen BK222.out 0
          have hfz34_1 := blk_frozen BK222.out 1
          have hfz34_2 := blk_frozen BK222.out 2
          go_wp2_with (first | (go_at_call 35; (with_reducible refine (roll_length.calls x6_3 t236 _ A32.out).mono ?_); rintro e w' ⟨rfl, ⟨nd, rfl⟩⟩; (try first | exact ⟨rfl, _, World.drewN_drewN _ _ _⟩ | exact ⟨rfl, _, Eq.trans (World.drewN_drewN _ _ _) (congrArg (World.drewN _) (Nat.add_assoc _ _ _))⟩)))
          repeat (go_quiet (first | (go_at_call 35; (with_reducible refine (roll_length.calls x6_3 t236 _ A32.out).mono ?_); rintro e w' ⟨rfl, ⟨nd, rfl⟩⟩; (try first | exact ⟨rfl, _, World.drewN_drewN _ _ _⟩ | exact ⟨rfl, _, Eq.trans (World.drewN_drewN _ _ _) (congrArg (World.drewN _) (Nat.add_assoc _ _ _))⟩))); try go_wp2_with (first | (go_at_call 35; (with_reducible refine (roll_length.calls x6_3 t236 _ A32.out).mono ?_); rintro e w' ⟨rfl, ⟨nd, rfl⟩⟩; (try first | exact ⟨rfl, _, World.drewN_drewN _ _ _⟩ | exact ⟨rfl, _, Eq.trans (World.drewN_drewN _ _ _) (congrArg (World.drewN _) (Nat.add_assoc _ _ _))⟩))))
          go_roundg k3
          case measure => have := HJ1.out; have := HJ12.out; have := HK3.out; omega
          case rel => exact ⟨(wrap64 (x5_3 + t236)), (wrap64 (x6_3 + 1)), (by first | rfl | (simp; done) | (simp [*]; done) | (refine congrArg (Value.int .i64) ?_; unfold wrap64; omega) | (simp only [shl_one_small _ (by assumption) (by omega)]; done) | (simp [*]; rw [shl_one_small _ (by assumption) (by omega)]; done)), (by first | rfl | (simp; done) | (simp [*]; done) | (refine congrArg (Value.int .i64) ?_; unfold wrap64; omega) | (simp only [shl_one_small _ (by assumption) (by omega)]; done) | (simp [*]; rw [shl_one_small _ (by assumption) (by omega)]; done)), H', ⟨by have := HJ1.out; have := HJ12.out; have := HK3.out; omega⟩, ⟨by (with_reducible repeat (first | refine blk_drewN ?_ _ | refine blk_drew ?_ | refine blk_alloc ?_ _)); exact BK222.out⟩, ⟨by (with_reducible repeat (first | refine blk_drewN ?_ _ | refine blk_drew ?_ | refine blk_alloc ?_ _)); exact BK235.out⟩, ⟨by repeat (first | (with_reducible first | exact HB.out | apply below_alloc | apply pw_below_drewN | apply below_drew1 | refine below_set ?_ GE222.out | refine below_set ?_ GE235.out) | exact HB.out)⟩⟩
         ·rw [if_neg c31] at H
          have c31b0 : decide (x6_3 < a0_0) = false := decide_eq_false c31
          clear c31
          have H' := Aside0.mk H
          clear H
          have hnb35 := NB222_235.out
          have hnc35 := NB235_222.out
          have hcz36_0 : wr.cell? ⟨gb222, 0, none⟩ = some (.int .i64 a0_0) := (blk_cell BK222.out 0).trans rfl
          have hcz36_1 : wr.cell? ⟨gb222, 1, none⟩ = some (.int .i64 a0_1) := (blk_cell BK222.out 1).trans rfl
          have hcz36_2 : wr.cell? ⟨gb222, 2, none⟩ = some (.int .i64 a0_2) := (blk_cell BK222.out 2).trans rfl
          have hfz36_0 := blk_frozen BK222.out 0
          have hfz36_1 := blk_frozen BK222.out 1
          have hfz36_2 := blk_frozen BK222.out 2
          go_wp2
          repeat (go_quiet (fail); try go_wp2)
          go_loopg [5, 58] k3 (fun kq v5 v58 w' => ∃ (x5_4 : Int) (x58_4 : Int), v5 = .int .i64 x5_4 ∧ v58 = .int .i64 x58_4 ∧ Aside0 (roll_Day.l1 kq x5_4 (wrap64 (a0_1 - 1)) x58_4 t223 t224 t225 t226 t227 t228 t229 t230 t231 t232 t233 t234 = some (r1, r2)) ∧ Aside0 (kq ≤ k3) ∧ Aside0 (w'.heap[gb222]? = some (.cells #[.int .i64 a0_0, .int .i64 a0_1, .int .i64 a0_2] 23 (0, 0))) ∧ Aside0 (w'.heap[gb235]? = some (.cells #[.int .i64 t223, .int .i64 t224, .int .i64 t225, .int .i64 t226, .int .i64 t227, .int .i64 t228, .int .i64 t229, .int .i64 t230, .int .i64 t231, .int .i64 t232, .int .i64 t233, .int .i64 t234] 57 (0, 0))) ∧ Aside0 (Below w.heap.size w w'))
          case atStart => exact ⟨(x5_3), (0), (by first | rfl | (simp; done) | (simp [*]; done) | (refine congrArg (Value.int .i64) ?_; unfold wrap64; omega) | (simp only [shl_one_small _ (by assumption) (by omega)]; done) | (simp [*]; rw [shl_one_small _ (by assumption) (by omega)]; done)), (by first | rfl | (simp; done) | (simp [*]; done) | (refine congrArg (Value.int .i64) ?_; unfold wrap64; omega) | (simp only [shl_one_small _ (by assumption) (by omega)]; done) | (simp [*]; rw [shl_one_small _ (by assumption) (by omega)]; done)), H', ⟨Nat.le_refl _⟩, ⟨by (with_reducible repeat (first | refine blk_drewN ?_ _ | refine blk_drew ?_ | refine blk_alloc ?_ _)); exact BK222.out⟩, ⟨by (with_reducible repeat (first | refine blk_drewN ?_ _ | refine blk_drew ?_ | refine blk_alloc ?_ _)); exact BK235.out⟩, ⟨by repeat (first | (with_reducible first | exact HB.out | apply below_alloc | apply pw_below_drewN | apply below_drew1 | refine below_set ?_ GE222.out | refine below_set ?_ GE235.out) | exact HB.out)⟩⟩
          case round =>
           clear H'
           try clear c4
           try clear c6
           try clear c8
           try clear c11
           try clear c18
           try clear c22
           try clear c23
           try clear c28
           try clear c31
           try clear c31b0
           try clear hcz14_0
           try clear hcz14_1
           try clear hcz14_2
           try clear hcz30_0
           try clear hcz30_1
           try clear hcz30_2
           try clear hcz36_0
           try clear hcz36_1
           try clear hcz36_2
           try clear hfz14_0
           try clear hfz14_1
           try clear hfz14_2
           try clear hfz30_0
           try clear hfz30_1
           try clear hfz30_2
           try clear hfz36_0
           try clear hfz36_1
           try clear hfz36_2
           obtain ⟨x5_4, x58_4, rfl, rfl, HA, HK4, BK222, BK235, HB⟩ := hrel
           cases gk with
           | zero => exact absurd HA.out (by simp [roll_Day.l1])
           | succ k4 =>
            have H := HA.out
            clear HA
            simp only [roll_Day.l1] at H
            by_cases c37 : x58_4 < (wrap64 (a0_1 - 1))
            ·rw [if_pos c37] at H
             have c37b0 : decide (x58_4 < (wrap64 (a0_1 - 1))) = true := decide_eq_true c37
             clear c37
             by_cases c38 : 0 ≤ x58_4
             ·rw [if_pos c38] at H
              have c38b0 : decide (0 ≤ x58_4) = true := decide_eq_true c38
              clear c38
              by_cases c39 : x58_4 < 12
              ·rw [if_pos c39] at H
               have c39b0 : decide (x58_4 < 12) = true := decide_eq_true c39
               clear c39
               have H' := Aside0.mk H
               clear H
               have hnb41 := NB235_222.out
               have hnc41 := NB222_235.out
               have hcz42_0 : wr.cell? ⟨gb235, 0, none⟩ = some (.int .i64 t223) := (blk_cell BK235.out 0).trans rfl
               have hcz42_1 : wr.cell? ⟨gb235, 1, none⟩ = some (.int .i64 t224) := (blk_cell BK235.out 1).trans rfl
               have hcz42_2 : wr.cell? ⟨gb235, 2, none⟩ = some (.int .i64 t225) := (blk_cell BK235.out 2).trans rfl
               have hcz42_3 : wr.cell? ⟨gb235, 3, none⟩ = some (.int .i64 t226) := (blk_cell BK235.out 3).trans rfl
               have hcz42_4 : wr.cell? ⟨gb235, 4, none⟩ = some (.int .i64 t227) := (blk_cell BK235.out 4).trans rfl
               have hcz42_5 : wr.cell? ⟨gb235, 5, none⟩ = some (.int .i64 t228) := (blk_cell BK235.out 5).trans rfl
               have hcz42_6 : wr.cell? ⟨gb235, 6, none⟩ = some (.int .i64 t229) := (blk_cell BK235.out 6).trans rfl
               have hcz42_7 : wr.cell? ⟨gb235, 7, none⟩ = some (.int .i64 t230) := (blk_cell BK235.out 7).trans rfl
               have hcz42_8 : wr.cell? ⟨gb235, 8, none⟩ = some (.int .i64 t231) := (blk_cell BK235.out 8).trans rfl
               have hcz42_9 : wr.cell? ⟨gb235, 9, none⟩ = some (.int .i64 t232) := (blk_cell BK235.out 9).trans rfl
               have hcz42_10 : wr.cell? ⟨gb235, 10, none⟩ = some (.int .i64 t233) := (blk_cell BK235.out 10).trans rfl
               have hcz42_11 : wr.cell? ⟨gb235, 11, none⟩ = some (.int .i64 t234) := (blk_cell BK235.out 11).trans rfl
               have hfz42_0 := blk_frozen BK235.out 0
               have hfz42_1 := blk_frozen BK235.out 1
               have hfz42_2 := blk_frozen BK235.out 2
               have hfz42_3 := blk_frozen BK235.out 3
               have hfz42_4 := blk_frozen BK235.out 4
               have hfz42_5 := blk_frozen BK235.out 5
               have hfz42_6 := blk_frozen BK235.out 6
               have hfz42_7 := blk_frozen BK235.out 7
               have hfz42_8 := blk_frozen BK235.out 8
               have hfz42_9 := blk_frozen BK235.out 9
               have hfz42_10 := blk_frozen BK235.out 10
               have hfz42_11 := blk_frozen BK235.out 11
               have pr40 : 0 ≤ (x58_4 : Int) := of_decide_eq_true (by first | (with_reducible assumption) | assumption)
               have qr40 : (x58_4 : Int) < 12 := of_decide_eq_true (by first | (with_reducible assumption) | assumption)
               have har40_0 : wr.cell? ⟨gb235, (x58_4 : Int).toNat, none⟩ = some (.int .i64 (rd [t223, t224, t225, t226, t227, t228, t229, t230, t231, t232, t233, t234] x58_4)) := (blk_cell BK235.out _).trans (arr_at .i64 [t223, t224, t225, t226, t227, t228, t229, t230, t231, t232, t233, t234] x58_4 pr40 qr40)
               go_wp2
               repeat (go_quiet (fail); try go_wp2)
               go_roundg k4
               case measure => have := HJ1.out; have := HJ12.out; have := HK3.out; have := HK4.out; omega
               case rel => exact ⟨(wrap64 (x5_4 + (rd [t223, t224, t225, t226, t227, t228, t229, t230, t231, t232, t233, t234] x58_4))), (wrap64 (x58_4 + 1)), (by first | rfl | (simp; done) | (simp [*]; done) | (refine congrArg (Value.int .i64) ?_; unfold wrap64; omega) | (simp only [shl_one_small _ (by assumption) (by omega)]; done) | (simp [*]; rw [shl_one_small _ (by assumption) (by omega)]; done)), (by first | rfl | (simp; done) | (simp [*]; done) | (refine congrArg (Value.int .i64) ?_; unfold wrap64; omega) | (simp only [shl_one_small _ (by assumption) (by omega)]; done) | (simp [*]; rw [shl_one_small _ (by assumption) (by omega)]; done)), H', ⟨by have := HJ1.out; have := HJ12.out; have := HK3.out; have := HK4.out; omega⟩, ⟨by (with_reducible repeat (first | refine blk_drewN ?_ _ | refine blk_drew ?_ | refine blk_alloc ?_ _)); exact BK222.out⟩, ⟨by (with_reducible repeat (first | refine blk_drewN ?_ _ | refine blk_drew ?_ | refine blk_alloc ?_ _)); exact BK235.out⟩, ⟨by repeat (first | (with_reducible first | exact HB.out | apply below_alloc | apply pw_below_drewN | apply below_drew1 | refine below_set ?_ GE222.out | refine below_set ?_ GE235.out) | exact HB.out)⟩⟩
              ·rw [if_neg c39] at H
               exact absurd H (by simp)
             ·rw [if_neg c38] at H
              exact absurd H (by simp)
            ·rw [if_neg c37] at H
             have c37b0 : decide (x58_4 < (wrap64 (a0_1 - 1))) = false := decide_eq_false c37
             clear c37
             by_cases c43 : x5_4 > 100000
             ·rw [if_pos c43] at H
              have c43b0 : decide (100000 < x5_4) = true := decide_eq_true c43
              clear c43
              simp only [Option.some.injEq, Prod.mk.injEq] at H
              obtain ⟨rfl, rfl⟩ := H
              go_wp2
              repeat (go_quiet (fail); try go_wp2)
              go_ret2
              exact ⟨by first | rfl | (simp [errW_none, errW_some] <;> rfl) | (simp [*, errW_none, errW_some] <;> rfl), by repeat (first | (with_reducible first | exact HB.out | apply below_alloc | apply pw_below_drewN | apply below_drew1 | refine below_set ?_ GE222.out | refine below_set ?_ GE235.out) | exact HB.out)⟩
             ·rw [if_neg c43] at H
              have c43b0 : decide (100000 < x5_4) = false := decide_eq_false c43
              clear c43
              simp only [Option.some.injEq, Prod.mk.injEq] at H
              obtain ⟨rfl, rfl⟩ := H
              go_wp2
              repeat (go_quiet (fail); try go_wp2)
              go_ret2
              exact ⟨by first | rfl | (simp [errW_none, errW_some] <;> rfl) | (simp [*, errW_none, errW_some] <;> rfl), by repeat (first | (with_reducible first | exact HB.out | apply below_alloc | apply pw_below_drewN | apply below_drew1 | refine below_set ?_ GE222.out | refine below_set ?_ GE235.out) | exact HB.out)⟩

end Go.Proofs.Ytmgccgiomnkbmaa.Q
