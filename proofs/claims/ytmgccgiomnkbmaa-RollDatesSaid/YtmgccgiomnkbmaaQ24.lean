-- PRINTED by print.py (a twelfth state) out of the translation. Not trusted: Lean checks it.
import Derived.Test.YtmgccgiomnkbmaaQ0
import Derived.Test.YtmgccgiomnkbmaaQ1
import Derived.Test.YtmgccgiomnkbmaaQ6
import Derived.Test.YtmgccgiomnkbmaaQ7
import Derived.Test.YtmgccgiomnkbmaaQ19
import Derived.Test.YtmgccgiomnkbmaaQ23
namespace Go.Proofs.Ytmgccgiomnkbmaa.Q
open Go.RowKit Go.Proofs.YtmgccgiomnkbmaaOwn Go.Proofs.YtmgccgiomnkbmaaW.PrintWords Go.Proofs.YtmgccgiomnkbmaaW.PrintLast Go.Proofs.YtmgccgiomnkbmaaW.PrintMore
attribute [local go_sem] max2_int min2_int max_two min_two max_three min_three max_four min_four   -- for this text's walks alone
set_option linter.unusedVariables false
set_option linter.unusedSimpArgs false

attribute [local go_sem high] eqA23
/-! ### hinterlandlaw01_RollDates: function 7 -/
def hinterlandlaw01_RollDates.j0 : Nat → Int → Int → Bool → Int → Int → Int → Option (Bool)
  | 0, _, _, _, _, _, _ => none
  | k + 1, x0, x6, x26, x247000, x247001, x247002 => if x26 = true then (some false) else ((roll_Day.f k x247000 x247001 x247002).bind fun bt247 => (if x6 = 0 then (if bt247.1 = x0 then (if bt247.2 = 0 then ((hinterlandlaw01_known.f k).bind fun t249 => (some t249)) else (some false)) else (some false)) else ((hinterlandlaw01_known.f k).bind fun t250 => (some t250))))
def hinterlandlaw01_RollDates.f (k : Nat) (a0 : Int) : Option (Bool) := (hinterlandref01_Date.f k a0).bind fun bt237 => ((roll_Date.f k a0).bind fun bt242 => (if (!(bt242.1 == bt237.1) || (!(bt242.2.1 == bt237.2.1) || (!(bt242.2.2.1 == bt237.2.2.1)))) = true then (hinterlandlaw01_RollDates.j0 k a0 bt242.2.2.2 true bt242.1 bt242.2.1 bt242.2.2.1) else (hinterlandlaw01_RollDates.j0 k a0 bt242.2.2.2 (bt242.2.2.2 != bt237.2.2.2) bt242.1 bt242.2.1 bt242.2.2.1)))
theorem hinterlandlaw01_RollDates.mono_l : ∀ k, (∀ y0 y1 y2 y3 y4 y5, LeO (hinterlandlaw01_RollDates.j0 k y0 y1 y2 y3 y4 y5) (hinterlandlaw01_RollDates.j0 (k + 1) y0 y1 y2 y3 y4 y5))
  | 0 => fun _ _ _ _ _ _ r h => by simp [hinterlandlaw01_RollDates.j0] at h
  | k + 1 => by
    have ih0 := hinterlandlaw01_RollDates.mono_l k
    · intro y0 y1 y2 y3 y4 y5
      unfold hinterlandlaw01_RollDates.j0
      repeat' first
      | (with_reducible exact ih0 _ _ _ _ _ _)
      | (with_reducible exact hinterlandlaw01_known.mono _)
      | (with_reducible exact hinterlandref01_Date.mono _ _)
      | (with_reducible exact roll_Date.mono _ _)
      | (with_reducible exact roll_Day.mono _ _ _ _)
      | (with_reducible exact LeO.refl _)
      | (with_reducible exact LeO.none _)
      | (with_reducible refine LeO.ite ?_ ?_)
      | (with_reducible refine LeO.bind ?_ (fun _ => ?_))
      | exact ih0 _ _ _ _ _ _
      | exact hinterlandlaw01_known.mono _
      | exact hinterlandref01_Date.mono _ _
      | exact roll_Date.mono _ _
      | exact roll_Day.mono _ _ _ _
      | exact LeO.none _
      | refine LeO.ite ?_ ?_
      | refine LeO.bind ?_ (fun _ => ?_)
theorem hinterlandlaw01_RollDates.mono : ∀ a0 k, LeO (hinterlandlaw01_RollDates.f k a0) (hinterlandlaw01_RollDates.f (k + 1) a0) := by
  intro a0 k
  have ih0 := hinterlandlaw01_RollDates.mono_l k
  unfold hinterlandlaw01_RollDates.f
  repeat' first
      | (with_reducible exact ih0 _ _ _ _ _ _)
      | (with_reducible exact hinterlandlaw01_known.mono _)
      | (with_reducible exact hinterlandref01_Date.mono _ _)
      | (with_reducible exact roll_Date.mono _ _)
      | (with_reducible exact roll_Day.mono _ _ _ _)
      | (with_reducible exact LeO.refl _)
      | (with_reducible exact LeO.none _)
      | (with_reducible refine LeO.ite ?_ ?_)
      | (with_reducible refine LeO.bind ?_ (fun _ => ?_))
      | exact ih0 _ _ _ _ _ _
      | exact hinterlandlaw01_known.mono _
      | exact hinterlandref01_Date.mono _ _
      | exact roll_Date.mono _ _
      | exact roll_Day.mono _ _ _ _
      | exact LeO.none _
      | refine LeO.ite ?_ ?_
      | refine LeO.bind ?_ (fun _ => ?_)
set_option maxHeartbeats 8000000 in
set_option maxRecDepth 100000 in
theorem hinterlandlaw01_RollDates.calls (k : Nat) (a0 : Int) (r : Bool) (w : World) (h : hinterlandlaw01_RollDates.f k a0 = some r) :
    Calls Try.prog 7 #[.int .i64 a0] w fun e w' => e = .returned (.bool r) ∧ Below w.heap.size w w' := by
 have hu23 := Try.underlying23
 have HB := Aside0.mk (Below.refl w.heap.size w)
 have H : ((hinterlandref01_Date.f k a0).bind fun bt237 => ((roll_Date.f k a0).bind fun bt242 => (if (!(bt242.1 == bt237.1) || (!(bt242.2.1 == bt237.2.1) || (!(bt242.2.2.1 == bt237.2.2.1)))) = true then (hinterlandlaw01_RollDates.j0 k a0 bt242.2.2.2 true bt242.1 bt242.2.1 bt242.2.2.1) else (hinterlandlaw01_RollDates.j0 k a0 bt242.2.2.2 (bt242.2.2.2 != bt237.2.2.2) bt242.1 bt242.2.1 bt242.2.2.1)))) = some r := h
 clear h
 replace H := Option.bind_eq_some_iff.mp H
 obtain ⟨⟨t237, t238, t239, t240⟩, A20, H⟩ := H
 replace H : ((roll_Date.f k a0).bind fun bt242 => (if (!(bt242.1 == t237) || (!(bt242.2.1 == t238) || (!(bt242.2.2.1 == t239)))) = true then (hinterlandlaw01_RollDates.j0 k a0 bt242.2.2.2 true bt242.1 bt242.2.1 bt242.2.2.1) else (hinterlandlaw01_RollDates.j0 k a0 bt242.2.2.2 (bt242.2.2.2 != t240) bt242.1 bt242.2.1 bt242.2.2.1))) = some r := H
 have A2 := Aside0.mk A20
 clear A20
 replace H := Option.bind_eq_some_iff.mp H
 obtain ⟨⟨t242, t243, t244, t245⟩, A30, H⟩ := H
 replace H : (if (!(t242 == t237) || (!(t243 == t238) || (!(t244 == t239)))) = true then (hinterlandlaw01_RollDates.j0 k a0 t245 true t242 t243 t244) else (hinterlandlaw01_RollDates.j0 k a0 t245 (t245 != t240) t242 t243 t244)) = some r := H
 have A3 := Aside0.mk A30
 clear A30
 have HC4 := Aside0.mk H
 clear H
 go_enter Try.func7, Try.ntmps7
 go_upto_region 3 with (first | ((with_reducible refine gate_callee (f := 23) rfl ?_); refine goesL_ (some 11) rfl rfl Try.func23 (by kernel_rfl) rfl #[.int .i64 a0] rfl (by (try simp only [List.map_toArray, List.map_cons, List.map_nil]); first | done | rfl | (simp only [List.length_drop, List.length_take]; rfl)) ?_; (with_reducible refine (hinterlandref01_Date.calls k a0 t237 t238 t239 t240 _ A2.out).mono ?_); rintro e w5 ⟨rfl, hb⟩; refine ⟨_, rfl, ?_⟩; have n0_ := Aside0.mk (below_step (by repeat (first | (with_reducible first | exact HB.out | apply below_alloc | apply pw_below_drewN | apply below_drew1) | exact HB.out)) hb); clear HB; have HB := n0_; clear n0_; (try clear hb); (try clear hb2); (try clear hk); (try clear hi)) | ((with_reducible refine gate_dst (N := 3) rfl ?_); refine box_event ?hg (N := 3) ?hd (cs := #[.int .i64 0, .int .i64 0, .int .i64 0]) (t := 23) ?hr ?_; (case hd => rfl); (case hg => rfl); (case hr => first | (go_simp; done) | (go_simp; rfl)); intro gb241 hg w6 hbox hb; have n0_ := Aside0.mk (below_step (by repeat (first | (with_reducible first | exact HB.out | apply below_alloc | apply pw_below_drewN | apply below_drew1) | exact HB.out)) hb); have n1_ := Aside0.mk (hbox); have n2_ := Aside0.mk ((by rw [hg]; exact (below_size (by repeat (first | (with_reducible first | exact HB.out | apply below_alloc | apply pw_below_drewN | apply below_drew1) | exact HB.out))) : w.heap.size ≤ gb241)); have n3_ := Aside0.mk ((by rw [hg]; exact (below_size (by repeat (first | (with_reducible first | exact HB.out | apply below_alloc | apply pw_below_drewN | apply below_drew1) | exact HB.out))) : w.heap.size ≤ gb241)); clear HB; have HB := n0_; have BK241 := n1_; have GW241 := n2_; have GE241 := n3_; clear n0_ n1_ n2_ n3_; clear hb hbox hg; have hcz7_0 : w6.cell? ⟨gb241, 0, none⟩ = some (.int .i64 0) := (blk_cell BK241.out 0).trans rfl; have hcz7_1 : w6.cell? ⟨gb241, 1, none⟩ = some (.int .i64 0) := (blk_cell BK241.out 1).trans rfl; have hcz7_2 : w6.cell? ⟨gb241, 2, none⟩ = some (.int .i64 0) := (blk_cell BK241.out 2).trans rfl; have hfz7_0 := blk_frozen BK241.out 0; have hfz7_1 := blk_frozen BK241.out 1; have hfz7_2 := blk_frozen BK241.out 2) | ((with_reducible refine gate_callee (f := 13) rfl ?_); refine goesL_ (some 16) rfl rfl Try.func13 (by kernel_rfl) rfl #[.int .i64 a0] rfl (by (try simp only [List.map_toArray, List.map_cons, List.map_nil]); first | done | rfl | (simp only [List.length_drop, List.length_take]; rfl)) ?_; (with_reducible refine (roll_Date.calls k a0 t242 t243 t244 t245 _ A3.out).mono ?_); rintro e w8 ⟨rfl, hb⟩; refine ⟨_, rfl, ?_⟩; have n0_ := Aside0.mk (blk_below (g := gb241) (o := .cells #[.int .i64 t237, .int .i64 t238, .int .i64 t239] 23 (0, 0)) (by (with_reducible repeat (first | refine blk_drewN ?_ _ | refine blk_drew ?_ | refine blk_alloc ?_ _)); refine blk_put (cs := #[.int .i64 t237, .int .i64 t238, .int .i64 0]) ?_ 2 _ rfl; (with_reducible repeat (first | refine blk_drewN ?_ _ | refine blk_drew ?_ | refine blk_alloc ?_ _)); refine blk_put (cs := #[.int .i64 t237, .int .i64 0, .int .i64 0]) ?_ 1 _ rfl; (with_reducible repeat (first | refine blk_drewN ?_ _ | refine blk_drew ?_ | refine blk_alloc ?_ _)); refine blk_put (cs := #[.int .i64 0, .int .i64 0, .int .i64 0]) ?_ 0 _ rfl; (with_reducible repeat (first | refine blk_drewN ?_ _ | refine blk_drew ?_ | refine blk_alloc ?_ _)); exact BK241.out) hb); have n1_ := Aside0.mk (below_step (by repeat (first | (with_reducible first | exact HB.out | apply below_alloc | apply pw_below_drewN | apply below_drew1 | refine below_set ?_ GE241.out) | exact HB.out)) hb); clear BK241; clear HB; have BK241 := n0_; have HB := n1_; clear n0_ n1_; (try clear hb); (try clear hb2); (try clear hk); (try clear hi)) | ((with_reducible refine gate_dst (N := 5) rfl ?_); refine box_event ?hg (N := 5) ?hd (cs := #[.int .i64 0, .int .i64 0, .int .i64 0]) (t := 23) ?hr ?_; (case hd => rfl); (case hg => rfl); (case hr => first | (go_simp; done) | (go_simp; rfl)); intro gb246 hg w9 hbox hb; have n0_ := Aside0.mk (blk_below (g := gb241) (o := .cells #[.int .i64 t237, .int .i64 t238, .int .i64 t239] 23 (0, 0)) (by (with_reducible repeat (first | refine blk_drewN ?_ _ | refine blk_drew ?_ | refine blk_alloc ?_ _)); exact BK241.out) hb); have n1_ := Aside0.mk (below_step (by repeat (first | (with_reducible first | exact HB.out | apply below_alloc | apply pw_below_drewN | apply below_drew1 | refine below_set ?_ GE241.out) | exact HB.out)) hb); have n2_ := Aside0.mk (hbox); have n3_ := Aside0.mk ((by rw [hg]; exact (below_size (by repeat (first | (with_reducible first | exact HB.out | apply below_alloc | apply pw_below_drewN | apply below_drew1 | refine below_set ?_ GE241.out) | exact HB.out))) : w.heap.size ≤ gb246)); have n4_ := Aside0.mk ((by rw [hg]; exact (below_size (by repeat (first | (with_reducible first | exact HB.out | apply below_alloc | apply pw_below_drewN | apply below_drew1 | refine below_set ?_ GE241.out) | exact HB.out))) : w.heap.size ≤ gb246)); have n5_ := Aside0.mk ((by rw [hg]; exact Nat.ne_of_lt (blk_lt (g := gb241) (o := .cells #[.int .i64 t237, .int .i64 t238, .int .i64 t239] 23 (0, 0)) (by (with_reducible repeat (first | refine blk_drewN ?_ _ | refine blk_drew ?_ | refine blk_alloc ?_ _)); exact BK241.out)) : gb241 ≠ gb246)); have n6_ := Aside0.mk ((by rw [hg]; exact Nat.ne_of_gt (blk_lt (g := gb241) (o := .cells #[.int .i64 t237, .int .i64 t238, .int .i64 t239] 23 (0, 0)) (by (with_reducible repeat (first | refine blk_drewN ?_ _ | refine blk_drew ?_ | refine blk_alloc ?_ _)); exact BK241.out)) : gb246 ≠ gb241)); clear BK241; clear HB; have BK241 := n0_; have HB := n1_; have BK246 := n2_; have GW246 := n3_; have GE246 := n4_; have NB241_246 := n5_; have NB246_241 := n6_; clear n0_ n1_ n2_ n3_ n4_ n5_ n6_; clear hb hbox hg; have hnb10 := NB246_241.out; have hnc10 := NB241_246.out; have hcz11_0 : w9.cell? ⟨gb246, 0, none⟩ = some (.int .i64 0) := (blk_cell BK246.out 0).trans rfl; have hcz11_1 : w9.cell? ⟨gb246, 1, none⟩ = some (.int .i64 0) := (blk_cell BK246.out 1).trans rfl; have hcz11_2 : w9.cell? ⟨gb246, 2, none⟩ = some (.int .i64 0) := (blk_cell BK246.out 2).trans rfl; have hfz11_0 := blk_frozen BK246.out 0; have hfz11_1 := blk_frozen BK246.out 1; have hfz11_2 := blk_frozen BK246.out 2))
 (try simp only [Act.put, List.setIfInBounds_toArray, List.set_cons_zero, List.set_cons_succ])
 go_cut [26] (fun v26 wc => ∃ (kq : Nat) (x26_3 : Bool), v26 = .bool x26_3 ∧ Aside0 (hinterlandlaw01_RollDates.j0 kq a0 t245 x26_3 t242 t243 t244 = some r) ∧ Aside0 (kq ≤ k) ∧ Aside0 (wc.heap[gb241]? = some (.cells #[.int .i64 t237, .int .i64 t238, .int .i64 t239] 23 (0, 0))) ∧ Aside0 (wc.heap[gb246]? = some (.cells #[.int .i64 t242, .int .i64 t243, .int .i64 t244] 23 (0, 0))) ∧ Aside0 (Below w.heap.size w wc))
 case first =>
  have H := HC4.out
  clear HC4
  by_cases c12 : (!(t242 == t237) || (!(t243 == t238) || (!(t244 == t239)))) = true
  ·rw [if_pos c12] at H
   have c12b0 : (!(t242 == t237) || (!(t243 == t238) || (!(t244 == t239)))) = true := c12
   clear c12
   (first | rw [c12b0] | (simp only [i64_w, i32_w]; rw [c12b0]) | skip)
   have H' := Aside0.mk H
   clear H
   have hnb13 := NB246_241.out
   have hnc13 := NB241_246.out
   have hcz14_0 : w9.cell? ⟨gb246, 0, none⟩ = some (.int .i64 0) := (blk_cell BK246.out 0).trans rfl
   have hcz14_1 : w9.cell? ⟨gb246, 1, none⟩ = some (.int .i64 0) := (blk_cell BK246.out 1).trans rfl
   have hcz14_2 : w9.cell? ⟨gb246, 2, none⟩ = some (.int .i64 0) := (blk_cell BK246.out 2).trans rfl
   have hfz14_0 := blk_frozen BK246.out 0
   have hfz14_1 := blk_frozen BK246.out 1
   have hfz14_2 := blk_frozen BK246.out 2
   have hcz15_0 : w9.cell? ⟨gb241, 0, none⟩ = some (.int .i64 t237) := (blk_cell BK241.out 0).trans rfl
   have hcz15_1 : w9.cell? ⟨gb241, 1, none⟩ = some (.int .i64 t238) := (blk_cell BK241.out 1).trans rfl
   have hcz15_2 : w9.cell? ⟨gb241, 2, none⟩ = some (.int .i64 t239) := (blk_cell BK241.out 2).trans rfl
   have hfz15_0 := blk_frozen BK241.out 0
   have hfz15_1 := blk_frozen BK241.out 1
   have hfz15_2 := blk_frozen BK241.out 2
   go_wp2
   go_meet
   case rel => exact ⟨_, (true), (by first | rfl | (simp; done) | (simp [*]; done) | (refine congrArg (Value.int .i64) ?_; unfold wrap64; omega) | (simp only [shl_one_small _ (by assumption) (by omega)]; done) | (simp [*]; rw [shl_one_small _ (by assumption) (by omega)]; done)), H', ⟨by first | omega | exact Nat.le_refl _⟩, ⟨by (with_reducible repeat (first | refine blk_drewN ?_ _ | refine blk_drew ?_ | refine blk_alloc ?_ _)); refine blk_far ?_ NB241_246.out _; (with_reducible repeat (first | refine blk_drewN ?_ _ | refine blk_drew ?_ | refine blk_alloc ?_ _)); refine blk_far ?_ NB241_246.out _; (with_reducible repeat (first | refine blk_drewN ?_ _ | refine blk_drew ?_ | refine blk_alloc ?_ _)); refine blk_far ?_ NB241_246.out _; (with_reducible repeat (first | refine blk_drewN ?_ _ | refine blk_drew ?_ | refine blk_alloc ?_ _)); exact BK241.out⟩, ⟨by (with_reducible repeat (first | refine blk_drewN ?_ _ | refine blk_drew ?_ | refine blk_alloc ?_ _)); refine blk_put (cs := #[.int .i64 t242, .int .i64 t243, .int .i64 0]) ?_ 2 _ rfl; (with_reducible repeat (first | refine blk_drewN ?_ _ | refine blk_drew ?_ | refine blk_alloc ?_ _)); refine blk_put (cs := #[.int .i64 t242, .int .i64 0, .int .i64 0]) ?_ 1 _ rfl; (with_reducible repeat (first | refine blk_drewN ?_ _ | refine blk_drew ?_ | refine blk_alloc ?_ _)); refine blk_put (cs := #[.int .i64 0, .int .i64 0, .int .i64 0]) ?_ 0 _ rfl; (with_reducible repeat (first | refine blk_drewN ?_ _ | refine blk_drew ?_ | refine blk_alloc ?_ _)); exact BK246.out⟩, ⟨by repeat (first | (with_reducible first | exact HB.out | apply below_alloc | apply pw_below_drewN | apply below_drew1 | refine below_set ?_ GE241.out | refine below_set ?_ GE246.out) | exact HB.out)⟩⟩
  ·rw [if_neg c12] at H
   have c12b0 : (!(t242 == t237) || (!(t243 == t238) || (!(t244 == t239)))) = false := by simpa using c12
   clear c12
   (first | rw [c12b0] | (simp only [i64_w, i32_w]; rw [c12b0]) | skip)
   have H' := Aside0.mk H
   clear H
   have hnb16 := NB246_241.out
   have hnc16 := NB241_246.out
   have hcz17_0 : w9.cell? ⟨gb246, 0, none⟩ = some (.int .i64 0) := (blk_cell BK246.out 0).trans rfl
   have hcz17_1 : w9.cell? ⟨gb246, 1, none⟩ = some (.int .i64 0) := (blk_cell BK246.out 1).trans rfl
   have hcz17_2 : w9.cell? ⟨gb246, 2, none⟩ = some (.int .i64 0) := (blk_cell BK246.out 2).trans rfl
   have hfz17_0 := blk_frozen BK246.out 0
   have hfz17_1 := blk_frozen BK246.out 1
   have hfz17_2 := blk_frozen BK246.out 2
   have hcz18_0 : w9.cell? ⟨gb241, 0, none⟩ = some (.int .i64 t237) := (blk_cell BK241.out 0).trans rfl
   have hcz18_1 : w9.cell? ⟨gb241, 1, none⟩ = some (.int .i64 t238) := (blk_cell BK241.out 1).trans rfl
   have hcz18_2 : w9.cell? ⟨gb241, 2, none⟩ = some (.int .i64 t239) := (blk_cell BK241.out 2).trans rfl
   have hfz18_0 := blk_frozen BK241.out 0
   have hfz18_1 := blk_frozen BK241.out 1
   have hfz18_2 := blk_frozen BK241.out 2
   go_wp2
   go_meet
   case rel => exact ⟨_, ((t245 != t240)), (by first | rfl | (simp; done) | (simp [*]; done) | (refine congrArg (Value.int .i64) ?_; unfold wrap64; omega) | (simp only [shl_one_small _ (by assumption) (by omega)]; done) | (simp [*]; rw [shl_one_small _ (by assumption) (by omega)]; done)), H', ⟨by first | omega | exact Nat.le_refl _⟩, ⟨by (with_reducible repeat (first | refine blk_drewN ?_ _ | refine blk_drew ?_ | refine blk_alloc ?_ _)); refine blk_far ?_ NB241_246.out _; (with_reducible repeat (first | refine blk_drewN ?_ _ | refine blk_drew ?_ | refine blk_alloc ?_ _)); refine blk_far ?_ NB241_246.out _; (with_reducible repeat (first | refine blk_drewN ?_ _ | refine blk_drew ?_ | refine blk_alloc ?_ _)); refine blk_far ?_ NB241_246.out _; (with_reducible repeat (first | refine blk_drewN ?_ _ | refine blk_drew ?_ | refine blk_alloc ?_ _)); exact BK241.out⟩, ⟨by (with_reducible repeat (first | refine blk_drewN ?_ _ | refine blk_drew ?_ | refine blk_alloc ?_ _)); refine blk_put (cs := #[.int .i64 t242, .int .i64 t243, .int .i64 0]) ?_ 2 _ rfl; (with_reducible repeat (first | refine blk_drewN ?_ _ | refine blk_drew ?_ | refine blk_alloc ?_ _)); refine blk_put (cs := #[.int .i64 t242, .int .i64 0, .int .i64 0]) ?_ 1 _ rfl; (with_reducible repeat (first | refine blk_drewN ?_ _ | refine blk_drew ?_ | refine blk_alloc ?_ _)); refine blk_put (cs := #[.int .i64 0, .int .i64 0, .int .i64 0]) ?_ 0 _ rfl; (with_reducible repeat (first | refine blk_drewN ?_ _ | refine blk_drew ?_ | refine blk_alloc ?_ _)); exact BK246.out⟩, ⟨by repeat (first | (with_reducible first | exact HB.out | apply below_alloc | apply pw_below_drewN | apply below_drew1 | refine below_set ?_ GE241.out | refine below_set ?_ GE246.out) | exact HB.out)⟩⟩
 case rest =>
  clear HC4
  try clear c1
  try clear c2
  try clear p2
  try clear p6
  try clear c7
  try clear c10
  try clear c12
  try clear c12b0
  try clear c13
  try clear c16
  try clear hcz11_0
  try clear hcz11_1
  try clear hcz11_2
  try clear hcz14_0
  try clear hcz14_1
  try clear hcz14_2
  try clear hcz15_0
  try clear hcz15_1
  try clear hcz15_2
  try clear hcz17_0
  try clear hcz17_1
  try clear hcz17_2
  try clear hcz18_0
  try clear hcz18_1
  try clear hcz18_2
  try clear hcz7_0
  try clear hcz7_1
  try clear hcz7_2
  try clear hfz11_0
  try clear hfz11_1
  try clear hfz11_2
  try clear hfz14_0
  try clear hfz14_1
  try clear hfz14_2
  try clear hfz15_0
  try clear hfz15_1
  try clear hfz15_2
  try clear hfz17_0
  try clear hfz17_1
  try clear hfz17_2
  try clear hfz18_0
  try clear hfz18_1
  try clear hfz18_2
  try clear hfz7_0
  try clear hfz7_1
  try clear hfz7_2
  obtain ⟨kq, x26_3, rfl, HA, HJ3, BK241, BK246, HB⟩ := hcut
  cases kq with
  | zero => exact absurd HA.out (by simp [hinterlandlaw01_RollDates.j0])
  | succ kj3 =>
   have H := HA.out
   clear HA
   simp only [hinterlandlaw01_RollDates.j0] at H
   by_cases c19 : x26_3 = true
   ·subst c19
    have H1 : (some false) = some r := by rw [if_pos rfl] at H; exact H
    clear H
    have H := H1
    clear H1
    obtain rfl := Option.some.inj H
    go_wp2
    go_ret
    exact ⟨by first | rfl | (simp [errW_none, errW_some] <;> rfl) | (simp [*, errW_none, errW_some] <;> rfl), by repeat (first | (with_reducible first | exact HB.out | apply below_alloc | apply pw_below_drewN | apply below_drew1 | refine below_set ?_ GE241.out | refine below_set ?_ GE246.out) | exact HB.out)⟩
   ·replace c19 := Bool.eq_false_iff.mpr c19
    subst c19
    have H1 : ((roll_Day.f kj3 t242 t243 t244).bind fun bt247 => (if t245 = 0 then (if bt247.1 = a0 then (if bt247.2 = 0 then ((hinterlandlaw01_known.f kj3).bind fun t249 => (some t249)) else (some false)) else (some false)) else ((hinterlandlaw01_known.f kj3).bind fun t250 => (some t250)))) = some r := by rw [if_neg (show ¬ (false = true) by decide)] at H; exact H
    clear H
    have H := H1
    clear H1
    replace H := Option.bind_eq_some_iff.mp H
    obtain ⟨⟨t247, t248⟩, A200, H⟩ := H
    replace H : (if t245 = 0 then (if t247 = a0 then (if t248 = 0 then ((hinterlandlaw01_known.f kj3).bind fun t249 => (some t249)) else (some false)) else (some false)) else ((hinterlandlaw01_known.f kj3).bind fun t250 => (some t250))) = some r := H
    have A20 := Aside0.mk A200
    clear A200
    by_cases c21 : t245 = 0
    ·rw [if_pos c21] at H
     have c21b0 : (t245 == 0) = true := beq_iff_eq.mpr c21
     have c21b1 : (t245 != 0) = false := bne_eq_false_iff_eq.mpr c21
     clear c21
     by_cases c22 : t247 = a0
     ·rw [if_pos c22] at H
      have c22b0 : (t247 == a0) = true := beq_iff_eq.mpr c22
      have c22b1 : (t247 != a0) = false := bne_eq_false_iff_eq.mpr c22
      clear c22
      by_cases c23 : t248 = 0
      ·rw [if_pos c23] at H
       have c23b0 : (t248 == 0) = true := beq_iff_eq.mpr c23
       have c23b1 : (t248 != 0) = false := bne_eq_false_iff_eq.mpr c23
       clear c23
       replace H := Option.bind_eq_some_iff.mp H
       obtain ⟨t249, A240, H⟩ := H
       replace H : (some t249) = some r := H
       have A24 := Aside0.mk A240
       clear A240
       obtain rfl := Option.some.inj H
       have hnb25 := NB246_241.out
       have hnc25 := NB241_246.out
       have hcz26_0 : wc.cell? ⟨gb246, 0, none⟩ = some (.int .i64 t242) := (blk_cell BK246.out 0).trans rfl
       have hcz26_1 : wc.cell? ⟨gb246, 1, none⟩ = some (.int .i64 t243) := (blk_cell BK246.out 1).trans rfl
       have hcz26_2 : wc.cell? ⟨gb246, 2, none⟩ = some (.int .i64 t244) := (blk_cell BK246.out 2).trans rfl
       have hfz26_0 := blk_frozen BK246.out 0
       have hfz26_1 := blk_frozen BK246.out 1
       have hfz26_2 := blk_frozen BK246.out 2
       go_wp2_with (first | ((with_reducible refine gate_callee (f := 24) rfl ?_); refine goesL_ (some 29) rfl rfl Try.func24 (by kernel_rfl) rfl #[.agg #[.int .i64 t242, .int .i64 t243, .int .i64 t244]] rfl (by (try simp only [List.map_toArray, List.map_cons, List.map_nil]); first | done | rfl | (simp only [List.length_drop, List.length_take]; rfl)) ?_; (with_reducible refine (roll_Day.calls kj3 t242 t243 t244 t247 t248 _ A20.out).mono ?_); rintro e w27 ⟨rfl, hb⟩; refine ⟨_, rfl, ?_⟩; have n0_ := Aside0.mk (blk_below (g := gb241) (o := .cells #[.int .i64 t237, .int .i64 t238, .int .i64 t239] 23 (0, 0)) (by (with_reducible repeat (first | refine blk_drewN ?_ _ | refine blk_drew ?_ | refine blk_alloc ?_ _)); exact BK241.out) hb); have n1_ := Aside0.mk (blk_below (g := gb246) (o := .cells #[.int .i64 t242, .int .i64 t243, .int .i64 t244] 23 (0, 0)) (by (with_reducible repeat (first | refine blk_drewN ?_ _ | refine blk_drew ?_ | refine blk_alloc ?_ _)); exact BK246.out) hb); have n2_ := Aside0.mk (below_step (by repeat (first | (with_reducible first | exact HB.out | apply below_alloc | apply pw_below_drewN | apply below_drew1 | refine below_set ?_ GE241.out | refine below_set ?_ GE246.out) | exact HB.out)) hb); clear BK241; clear BK246; clear HB; have BK241 := n0_; have BK246 := n1_; have HB := n2_; clear n0_ n1_ n2_; (try clear hb); (try clear hb2); (try clear hk); (try clear hi)) | (go_at_call 14; (with_reducible refine (hinterlandlaw01_known.calls kj3  t249 _ A24.out).mono ?_); rintro e w28 ⟨rfl, hb⟩; have n0_ := Aside0.mk (blk_below (g := gb241) (o := .cells #[.int .i64 t237, .int .i64 t238, .int .i64 t239] 23 (0, 0)) (by (with_reducible repeat (first | refine blk_drewN ?_ _ | refine blk_drew ?_ | refine blk_alloc ?_ _)); exact BK241.out) hb); have n1_ := Aside0.mk (blk_below (g := gb246) (o := .cells #[.int .i64 t242, .int .i64 t243, .int .i64 t244] 23 (0, 0)) (by (with_reducible repeat (first | refine blk_drewN ?_ _ | refine blk_drew ?_ | refine blk_alloc ?_ _)); exact BK246.out) hb); have n2_ := Aside0.mk (below_step (by repeat (first | (with_reducible first | exact HB.out | apply below_alloc | apply pw_below_drewN | apply below_drew1 | refine below_set ?_ GE241.out | refine below_set ?_ GE246.out) | exact HB.out)) hb); clear BK241; clear BK246; clear HB; have BK241 := n0_; have BK246 := n1_; have HB := n2_; clear n0_ n1_ n2_; (try clear hb); (try clear hb2); (try clear hk); (try clear hi)))
       go_ret
       exact ⟨by first | rfl | (simp [errW_none, errW_some] <;> rfl) | (simp [*, errW_none, errW_some] <;> rfl), by repeat (first | (with_reducible first | exact HB.out | apply below_alloc | apply pw_below_drewN | apply below_drew1 | refine below_set ?_ GE241.out | refine below_set ?_ GE246.out) | exact HB.out)⟩
      ·rw [if_neg c23] at H
       have c23b0 : (t248 == 0) = false := beq_eq_false_iff_ne.mpr c23
       have c23b1 : (t248 != 0) = true := bne_iff_ne.mpr c23
       obtain rfl := Option.some.inj H
       have hnb29 := NB246_241.out
       have hnc29 := NB241_246.out
       have hcz30_0 : wc.cell? ⟨gb246, 0, none⟩ = some (.int .i64 t242) := (blk_cell BK246.out 0).trans rfl
       have hcz30_1 : wc.cell? ⟨gb246, 1, none⟩ = some (.int .i64 t243) := (blk_cell BK246.out 1).trans rfl
       have hcz30_2 : wc.cell? ⟨gb246, 2, none⟩ = some (.int .i64 t244) := (blk_cell BK246.out 2).trans rfl
       have hfz30_0 := blk_frozen BK246.out 0
       have hfz30_1 := blk_frozen BK246.out 1
       have hfz30_2 := blk_frozen BK246.out 2
       go_wp2_with (first | ((with_reducible refine gate_callee (f := 24) rfl ?_); refine goesL_ (some 29) rfl rfl Try.func24 (by kernel_rfl) rfl #[.agg #[.int .i64 t242, .int .i64 t243, .int .i64 t244]] rfl (by (try simp only [List.map_toArray, List.map_cons, List.map_nil]); first | done | rfl | (simp only [List.length_drop, List.length_take]; rfl)) ?_; (with_reducible refine (roll_Day.calls kj3 t242 t243 t244 t247 t248 _ A20.out).mono ?_); rintro e w31 ⟨rfl, hb⟩; refine ⟨_, rfl, ?_⟩; have n0_ := Aside0.mk (blk_below (g := gb241) (o := .cells #[.int .i64 t237, .int .i64 t238, .int .i64 t239] 23 (0, 0)) (by (with_reducible repeat (first | refine blk_drewN ?_ _ | refine blk_drew ?_ | refine blk_alloc ?_ _)); exact BK241.out) hb); have n1_ := Aside0.mk (blk_below (g := gb246) (o := .cells #[.int .i64 t242, .int .i64 t243, .int .i64 t244] 23 (0, 0)) (by (with_reducible repeat (first | refine blk_drewN ?_ _ | refine blk_drew ?_ | refine blk_alloc ?_ _)); exact BK246.out) hb); have n2_ := Aside0.mk (below_step (by repeat (first | (with_reducible first | exact HB.out | apply below_alloc | apply pw_below_drewN | apply below_drew1 | refine below_set ?_ GE241.out | refine below_set ?_ GE246.out) | exact HB.out)) hb); clear BK241; clear BK246; clear HB; have BK241 := n0_; have BK246 := n1_; have HB := n2_; clear n0_ n1_ n2_; (try clear hb); (try clear hb2); (try clear hk); (try clear hi)))
       go_ret
       exact ⟨by first | rfl | (simp [errW_none, errW_some] <;> rfl) | (simp [*, errW_none, errW_some] <;> rfl), by repeat (first | (with_reducible first | exact HB.out | apply below_alloc | apply pw_below_drewN | apply below_drew1 | refine below_set ?_ GE241.out | refine below_set ?_ GE246.out) | exact HB.out)⟩
     ·rw [if_neg c22] at H
      have c22b0 : (t247 == a0) = false := beq_eq_false_iff_ne.mpr c22
      have c22b1 : (t247 != a0) = true := bne_iff_ne.mpr c22
      obtain rfl := Option.some.inj H
      have hnb32 := NB246_241.out
      have hnc32 := NB241_246.out
      have hcz33_0 : wc.cell? ⟨gb246, 0, none⟩ = some (.int .i64 t242) := (blk_cell BK246.out 0).trans rfl
      have hcz33_1 : wc.cell? ⟨gb246, 1, none⟩ = some (.int .i64 t243) := (blk_cell BK246.out 1).trans rfl
      have hcz33_2 : wc.cell? ⟨gb246, 2, none⟩ = some (.int .i64 t244) := (blk_cell BK246.out 2).trans rfl
      have hfz33_0 := blk_frozen BK246.out 0
      have hfz33_1 := blk_frozen BK246.out 1
      have hfz33_2 := blk_frozen BK246.out 2
      go_wp2_with (first | ((with_reducible refine gate_callee (f := 24) rfl ?_); refine goesL_ (some 29) rfl rfl Try.func24 (by kernel_rfl) rfl #[.agg #[.int .i64 t242, .int .i64 t243, .int .i64 t244]] rfl (by (try simp only [List.map_toArray, List.map_cons, List.map_nil]); first | done | rfl | (simp only [List.length_drop, List.length_take]; rfl)) ?_; (with_reducible refine (roll_Day.calls kj3 t242 t243 t244 t247 t248 _ A20.out).mono ?_); rintro e w34 ⟨rfl, hb⟩; refine ⟨_, rfl, ?_⟩; have n0_ := Aside0.mk (blk_below (g := gb241) (o := .cells #[.int .i64 t237, .int .i64 t238, .int .i64 t239] 23 (0, 0)) (by (with_reducible repeat (first | refine blk_drewN ?_ _ | refine blk_drew ?_ | refine blk_alloc ?_ _)); exact BK241.out) hb); have n1_ := Aside0.mk (blk_below (g := gb246) (o := .cells #[.int .i64 t242, .int .i64 t243, .int .i64 t244] 23 (0, 0)) (by (with_reducible repeat (first | refine blk_drewN ?_ _ | refine blk_drew ?_ | refine blk_alloc ?_ _)); exact BK246.out) hb); have n2_ := Aside0.mk (below_step (by repeat (first | (with_reducible first | exact HB.out | apply below_alloc | apply pw_below_drewN | apply below_drew1 | refine below_set ?_ GE241.out | refine below_set ?_ GE246.out) | exact HB.out)) hb); clear BK241; clear BK246; clear HB; have BK241 := n0_; have BK246 := n1_; have HB := n2_; clear n0_ n1_ n2_; (try clear hb); (try clear hb2); (try clear hk); (try clear hi)))
      go_ret
      exact ⟨by first | rfl | (simp [errW_none, errW_some] <;> rfl) | (simp [*, errW_none, errW_some] <;> rfl), by repeat (first | (with_reducible first | exact HB.out | apply below_alloc | apply pw_below_drewN | apply below_drew1 | refine below_set ?_ GE241.out | refine below_set ?_ GE246.out) | exact HB.out)⟩
    ·rw [if_neg c21] at H
     have c21b0 : (t245 == 0) = false := beq_eq_false_iff_ne.mpr c21
     have c21b1 : (t245 != 0) = true := bne_iff_ne.mpr c21
     replace H := Option.bind_eq_some_iff.mp H
     obtain ⟨t250, A350, H⟩ := H
     replace H : (some t250) = some r := H
     have A35 := Aside0.mk A350
     clear A350
     obtain rfl := Option.some.inj H
     have hnb36 := NB246_241.out
     have hnc36 := NB241_246.out
     have hcz37_0 : wc.cell? ⟨gb246, 0, none⟩ = some (.int .i64 t242) := (blk_cell BK246.out 0).trans rfl
     have hcz37_1 : wc.cell? ⟨gb246, 1, none⟩ = some (.int .i64 t243) := (blk_cell BK246.out 1).trans rfl
     have hcz37_2 : wc.cell? ⟨gb246, 2, none⟩ = some (.int .i64 t244) := (blk_cell BK246.out 2).trans rfl
     have hfz37_0 := blk_frozen BK246.out 0
     have hfz37_1 := blk_frozen BK246.out 1
     have hfz37_2 := blk_frozen BK246.out 2
     go_wp2_with (first | ((with_reducible refine gate_callee (f := 24) rfl ?_); refine goesL_ (some 29) rfl rfl Try.func24 (by kernel_rfl) rfl #[.agg #[.int .i64 t242, .int .i64 t243, .int .i64 t244]] rfl (by (try simp only [List.map_toArray, List.map_cons, List.map_nil]); first | done | rfl | (simp only [List.length_drop, List.length_take]; rfl)) ?_; (with_reducible refine (roll_Day.calls kj3 t242 t243 t244 t247 t248 _ A20.out).mono ?_); rintro e w38 ⟨rfl, hb⟩; refine ⟨_, rfl, ?_⟩; have n0_ := Aside0.mk (blk_below (g := gb241) (o := .cells #[.int .i64 t237, .int .i64 t238, .int .i64 t239] 23 (0, 0)) (by (with_reducible repeat (first | refine blk_drewN ?_ _ | refine blk_drew ?_ | refine blk_alloc ?_ _)); exact BK241.out) hb); have n1_ := Aside0.mk (blk_below (g := gb246) (o := .cells #[.int .i64 t242, .int .i64 t243, .int .i64 t244] 23 (0, 0)) (by (with_reducible repeat (first | refine blk_drewN ?_ _ | refine blk_drew ?_ | refine blk_alloc ?_ _)); exact BK246.out) hb); have n2_ := Aside0.mk (below_step (by repeat (first | (with_reducible first | exact HB.out | apply below_alloc | apply pw_below_drewN | apply below_drew1 | refine below_set ?_ GE241.out | refine below_set ?_ GE246.out) | exact HB.out)) hb); clear BK241; clear BK246; clear HB; have BK241 := n0_; have BK246 := n1_; have HB := n2_; clear n0_ n1_ n2_; (try clear hb); (try clear hb2); (try clear hk); (try clear hi)) | (go_at_call 14; (with_reducible refine (hinterlandlaw01_known.calls kj3  t250 _ A35.out).mono ?_); rintro e w39 ⟨rfl, hb⟩; have n0_ := Aside0.mk (blk_below (g := gb241) (o := .cells #[.int .i64 t237, .int .i64 t238, .int .i64 t239] 23 (0, 0)) (by (with_reducible repeat (first | refine blk_drewN ?_ _ | refine blk_drew ?_ | refine blk_alloc ?_ _)); exact BK241.out) hb); have n1_ := Aside0.mk (blk_below (g := gb246) (o := .cells #[.int .i64 t242, .int .i64 t243, .int .i64 t244] 23 (0, 0)) (by (with_reducible repeat (first | refine blk_drewN ?_ _ | refine blk_drew ?_ | refine blk_alloc ?_ _)); exact BK246.out) hb); have n2_ := Aside0.mk (below_step (by repeat (first | (with_reducible first | exact HB.out | apply below_alloc | apply pw_below_drewN | apply below_drew1 | refine below_set ?_ GE241.out | refine below_set ?_ GE246.out) | exact HB.out)) hb); clear BK241; clear BK246; clear HB; have BK241 := n0_; have BK246 := n1_; have HB := n2_; clear n0_ n1_ n2_; (try clear hb); (try clear hb2); (try clear hk); (try clear hi)))
     go_ret
     exact ⟨by first | rfl | (simp [errW_none, errW_some] <;> rfl) | (simp [*, errW_none, errW_some] <;> rfl), by repeat (first | (with_reducible first | exact HB.out | apply below_alloc | apply pw_below_drewN | apply below_drew1 | refine below_set ?_ GE241.out | refine below_set ?_ GE246.out) | exact HB.out)⟩

/-- THE ONE PURE STATEMENT of hinterlandlaw01_RollDates. -/
def hinterlandlaw01_RollDates.Pure : Prop := ∀ (a0 : Int), (wInt .i64) a0 → ∃ k, hinterlandlaw01_RollDates.f k a0 = some true

end Go.Proofs.Ytmgccgiomnkbmaa.Q
