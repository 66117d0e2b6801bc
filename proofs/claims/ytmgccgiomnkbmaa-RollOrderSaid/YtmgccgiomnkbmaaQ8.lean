-- PRINTED by print.py (a twelfth state) out of the translation. Not trusted: Lean checks it.
import Derived.Test.YtmgccgiomnkbmaaQ0
import Derived.Test.YtmgccgiomnkbmaaQ1
import Derived.Test.YtmgccgiomnkbmaaQ6
import Derived.Test.YtmgccgiomnkbmaaQ7
namespace Go.Proofs.Ytmgccgiomnkbmaa.Q
open Go.RowKit Go.Proofs.YtmgccgiomnkbmaaOwn Go.Proofs.YtmgccgiomnkbmaaW.PrintWords Go.Proofs.YtmgccgiomnkbmaaW.PrintLast Go.Proofs.YtmgccgiomnkbmaaW.PrintMore
attribute [local go_sem] max2_int min2_int max_two min_two max_three min_three max_four min_four   -- for this text's walks alone
set_option linter.unusedVariables false
set_option linter.unusedSimpArgs false

attribute [local go_sem high] eqA23
/-! ### hinterlandlaw01_RollOrder: function 3 -/
def hinterlandlaw01_RollOrder.j0 : Nat → Int → Int → Bool → Int → Int → Int → Int → Int → Int → Option (Bool)
  | 0, _, _, _, _, _, _, _, _, _ => none
  | k + 1, x0, x1, x25, x132000, x132001, x132002, x137000, x137001, x137002 => if x25 = true then ((hinterlandlaw01_known.f k).bind fun t137 => (some t137)) else (if x132000 < x137000 then (if (true == (decide (x0 < x1))) = true then (if ((x132000 == x137000 && (x132001 == x137001 && (x132002 == x137002))) == (x0 == x1)) = true then ((hinterlandlaw01_known.f k).bind fun t138 => (some t138)) else (some false)) else (some false)) else (if x132000 = x137000 then (if x132001 < x137001 then (if (true == (decide (x0 < x1))) = true then (if ((x132000 == x137000 && (x132001 == x137001 && (x132002 == x137002))) == (x0 == x1)) = true then ((hinterlandlaw01_known.f k).bind fun t139 => (some t139)) else (some false)) else (some false)) else (if x132001 = x137001 then (if ((decide (x132002 < x137002)) == (decide (x0 < x1))) = true then (if ((x132000 == x137000 && (x132001 == x137001 && (x132002 == x137002))) == (x0 == x1)) = true then ((hinterlandlaw01_known.f k).bind fun t140 => (some t140)) else (some false)) else (some false)) else (if (false == (decide (x0 < x1))) = true then (if ((x132000 == x137000 && (x132001 == x137001 && (x132002 == x137002))) == (x0 == x1)) = true then ((hinterlandlaw01_known.f k).bind fun t141 => (some t141)) else (some false)) else (some false)))) else (if (false == (decide (x0 < x1))) = true then (if ((x132000 == x137000 && (x132001 == x137001 && (x132002 == x137002))) == (x0 == x1)) = true then ((hinterlandlaw01_known.f k).bind fun t142 => (some t142)) else (some false)) else (some false))))
def hinterlandlaw01_RollOrder.f (k : Nat) (a0 : Int) (a1 : Int) : Option (Bool) := (roll_Date.f k a0).bind fun bt127 => ((roll_Date.f k a1).bind fun bt132 => (if bt127.2.2.2 = 0 then (hinterlandlaw01_RollOrder.j0 k a0 a1 (bt132.2.2.2 != 0) bt127.1 bt127.2.1 bt127.2.2.1 bt132.1 bt132.2.1 bt132.2.2.1) else (hinterlandlaw01_RollOrder.j0 k a0 a1 true bt127.1 bt127.2.1 bt127.2.2.1 bt132.1 bt132.2.1 bt132.2.2.1)))
theorem hinterlandlaw01_RollOrder.mono_l : ∀ k, (∀ y0 y1 y2 y3 y4 y5 y6 y7 y8, LeO (hinterlandlaw01_RollOrder.j0 k y0 y1 y2 y3 y4 y5 y6 y7 y8) (hinterlandlaw01_RollOrder.j0 (k + 1) y0 y1 y2 y3 y4 y5 y6 y7 y8))
  | 0 => fun _ _ _ _ _ _ _ _ _ r h => by simp [hinterlandlaw01_RollOrder.j0] at h
  | k + 1 => by
    have ih0 := hinterlandlaw01_RollOrder.mono_l k
    · intro y0 y1 y2 y3 y4 y5 y6 y7 y8
      unfold hinterlandlaw01_RollOrder.j0
      repeat' first
      | (with_reducible exact ih0 _ _ _ _ _ _ _ _ _)
      | (with_reducible exact hinterlandlaw01_known.mono _)
      | (with_reducible exact roll_Date.mono _ _)
      | (with_reducible exact LeO.refl _)
      | (with_reducible exact LeO.none _)
      | (with_reducible refine LeO.ite ?_ ?_)
      | (with_reducible refine LeO.bind ?_ (fun _ => ?_))
      | exact ih0 _ _ _ _ _ _ _ _ _
      | exact hinterlandlaw01_known.mono _
      | exact roll_Date.mono _ _
      | exact LeO.none _
      | refine LeO.ite ?_ ?_
      | refine LeO.bind ?_ (fun _ => ?_)
theorem hinterlandlaw01_RollOrder.mono : ∀ a0 a1 k, LeO (hinterlandlaw01_RollOrder.f k a0 a1) (hinterlandlaw01_RollOrder.f (k + 1) a0 a1) := by
  intro a0 a1 k
  have ih0 := hinterlandlaw01_RollOrder.mono_l k
  unfold hinterlandlaw01_RollOrder.f
  repeat' first
      | (with_reducible exact ih0 _ _ _ _ _ _ _ _ _)
      | (with_reducible exact hinterlandlaw01_known.mono _)
      | (with_reducible exact roll_Date.mono _ _)
      | (with_reducible exact LeO.refl _)
      | (with_reducible exact LeO.none _)
      | (with_reducible refine LeO.ite ?_ ?_)
      | (with_reducible refine LeO.bind ?_ (fun _ => ?_))
      | exact ih0 _ _ _ _ _ _ _ _ _
      | exact hinterlandlaw01_known.mono _
      | exact roll_Date.mono _ _
      | exact LeO.none _
      | refine LeO.ite ?_ ?_
      | refine LeO.bind ?_ (fun _ => ?_)
set_option maxHeartbeats 8000000 in
set_option maxRecDepth 100000 in
theorem hinterlandlaw01_RollOrder.calls (k : Nat) (a0 : Int) (a1 : Int) (r : Bool) (w : World) (h : hinterlandlaw01_RollOrder.f k a0 a1 = some r) :
    Calls Try.prog 3 #[.int .i64 a0, .int .i64 a1] w fun e w' => e = .returned (.bool r) ∧ Below w.heap.size w w' := by
 have hu23 := Try.underlying23
 have HB := Aside0.mk (Below.refl w.heap.size w)
 have H : ((roll_Date.f k a0).bind fun bt127 => ((roll_Date.f k a1).bind fun bt132 => (if bt127.2.2.2 = 0 then (hinterlandlaw01_RollOrder.j0 k a0 a1 (bt132.2.2.2 != 0) bt127.1 bt127.2.1 bt127.2.2.1 bt132.1 bt132.2.1 bt132.2.2.1) else (hinterlandlaw01_RollOrder.j0 k a0 a1 true bt127.1 bt127.2.1 bt127.2.2.1 bt132.1 bt132.2.1 bt132.2.2.1)))) = some r := h
 clear h
 replace H := Option.bind_eq_some_iff.mp H
 obtain ⟨⟨t127, t128, t129, t130⟩, A30, H⟩ := H
 replace H : ((roll_Date.f k a1).bind fun bt132 => (if t130 = 0 then (hinterlandlaw01_RollOrder.j0 k a0 a1 (bt132.2.2.2 != 0) t127 t128 t129 bt132.1 bt132.2.1 bt132.2.2.1) else (hinterlandlaw01_RollOrder.j0 k a0 a1 true t127 t128 t129 bt132.1 bt132.2.1 bt132.2.2.1))) = some r := H
 have A3 := Aside0.mk A30
 clear A30
 replace H := Option.bind_eq_some_iff.mp H
 obtain ⟨⟨t132, t133, t134, t135⟩, A40, H⟩ := H
 replace H : (if t130 = 0 then (hinterlandlaw01_RollOrder.j0 k a0 a1 (t135 != 0) t127 t128 t129 t132 t133 t134) else (hinterlandlaw01_RollOrder.j0 k a0 a1 true t127 t128 t129 t132 t133 t134)) = some r := H
 have A4 := Aside0.mk A40
 clear A40
 have HC5 := Aside0.mk H
 clear H
 go_enter Try.func3, Try.ntmps3
 go_upto_region 3 with (first | ((with_reducible refine gate_callee (f := 13) rfl ?_); refine goesL_ (some 12) rfl rfl Try.func13 (by kernel_rfl) rfl #[.int .i64 a0] rfl (by (try simp only [List.map_toArray, List.map_cons, List.map_nil]); first | done | rfl | (simp only [List.length_drop, List.length_take]; rfl)) ?_; (with_reducible refine (roll_Date.calls k a0 t127 t128 t129 t130 _ A3.out).mono ?_); rintro e w6 ⟨rfl, hb⟩; refine ⟨_, rfl, ?_⟩; have n0_ := Aside0.mk (below_step (by repeat (first | (with_reducible first | exact HB.out | apply below_alloc | apply pw_below_drewN | apply below_drew1) | exact HB.out)) hb); clear HB; have HB := n0_; clear n0_; (try clear hb); (try clear hb2); (try clear hk); (try clear hi)) | ((with_reducible refine gate_dst (N := 5) rfl ?_); refine box_event ?hg (N := 5) ?hd (cs := #[.int .i64 0, .int .i64 0, .int .i64 0]) (t := 23) ?hr ?_; (case hd => rfl); (case hg => rfl); (case hr => first | (go_simp; done) | (go_simp; rfl)); intro gb131 hg w7 hbox hb; have n0_ := Aside0.mk (below_step (by repeat (first | (with_reducible first | exact HB.out | apply below_alloc | apply pw_below_drewN | apply below_drew1) | exact HB.out)) hb); have n1_ := Aside0.mk (hbox); have n2_ := Aside0.mk ((by rw [hg]; exact (below_size (by repeat (first | (with_reducible first | exact HB.out | apply below_alloc | apply pw_below_drewN | apply below_drew1) | exact HB.out))) : w.heap.size ≤ gb131)); have n3_ := Aside0.mk ((by rw [hg]; exact (below_size (by repeat (first | (with_reducible first | exact HB.out | apply below_alloc | apply pw_below_drewN | apply below_drew1) | exact HB.out))) : w.heap.size ≤ gb131)); clear HB; have HB := n0_; have BK131 := n1_; have GW131 := n2_; have GE131 := n3_; clear n0_ n1_ n2_ n3_; clear hb hbox hg; have hcz8_0 : w7.cell? ⟨gb131, 0, none⟩ = some (.int .i64 0) := (blk_cell BK131.out 0).trans rfl; have hcz8_1 : w7.cell? ⟨gb131, 1, none⟩ = some (.int .i64 0) := (blk_cell BK131.out 1).trans rfl; have hcz8_2 : w7.cell? ⟨gb131, 2, none⟩ = some (.int .i64 0) := (blk_cell BK131.out 2).trans rfl; have hfz8_0 := blk_frozen BK131.out 0; have hfz8_1 := blk_frozen BK131.out 1; have hfz8_2 := blk_frozen BK131.out 2) | ((with_reducible refine gate_callee (f := 13) rfl ?_); refine goesL_ (some 17) rfl rfl Try.func13 (by kernel_rfl) rfl #[.int .i64 a1] rfl (by (try simp only [List.map_toArray, List.map_cons, List.map_nil]); first | done | rfl | (simp only [List.length_drop, List.length_take]; rfl)) ?_; (with_reducible refine (roll_Date.calls k a1 t132 t133 t134 t135 _ A4.out).mono ?_); rintro e w9 ⟨rfl, hb⟩; refine ⟨_, rfl, ?_⟩; have n0_ := Aside0.mk (blk_below (g := gb131) (o := .cells #[.int .i64 t127, .int .i64 t128, .int .i64 t129] 23 (0, 0)) (by (with_reducible repeat (first | refine blk_drewN ?_ _ | refine blk_drew ?_ | refine blk_alloc ?_ _)); refine blk_put (cs := #[.int .i64 t127, .int .i64 t128, .int .i64 0]) ?_ 2 _ rfl; (with_reducible repeat (first | refine blk_drewN ?_ _ | refine blk_drew ?_ | refine blk_alloc ?_ _)); refine blk_put (cs := #[.int .i64 t127, .int .i64 0, .int .i64 0]) ?_ 1 _ rfl; (with_reducible repeat (first | refine blk_drewN ?_ _ | refine blk_drew ?_ | refine blk_alloc ?_ _)); refine blk_put (cs := #[.int .i64 0, .int .i64 0, .int .i64 0]) ?_ 0 _ rfl; (with_reducible repeat (first | refine blk_drewN ?_ _ | refine blk_drew ?_ | refine blk_alloc ?_ _)); exact BK131.out) hb); have n1_ := Aside0.mk (below_step (by repeat (first | (with_reducible first | exact HB.out | apply below_alloc | apply pw_below_drewN | apply below_drew1 | refine below_set ?_ GE131.out) | exact HB.out)) hb); clear BK131; clear HB; have BK131 := n0_; have HB := n1_; clear n0_ n1_; (try clear hb); (try clear hb2); (try clear hk); (try clear hi)) | ((with_reducible refine gate_dst (N := 7) rfl ?_); refine box_event ?hg (N := 7) ?hd (cs := #[.int .i64 0, .int .i64 0, .int .i64 0]) (t := 23) ?hr ?_; (case hd => rfl); (case hg => rfl); (case hr => first | (go_simp; done) | (go_simp; rfl)); intro gb136 hg w10 hbox hb; have n0_ := Aside0.mk (blk_below (g := gb131) (o := .cells #[.int .i64 t127, .int .i64 t128, .int .i64 t129] 23 (0, 0)) (by (with_reducible repeat (first | refine blk_drewN ?_ _ | refine blk_drew ?_ | refine blk_alloc ?_ _)); exact BK131.out) hb); have n1_ := Aside0.mk (below_step (by repeat (first | (with_reducible first | exact HB.out | apply below_alloc | apply pw_below_drewN | apply below_drew1 | refine below_set ?_ GE131.out) | exact HB.out)) hb); have n2_ := Aside0.mk (hbox); have n3_ := Aside0.mk ((by rw [hg]; exact (below_size (by repeat (first | (with_reducible first | exact HB.out | apply below_alloc | apply pw_below_drewN | apply below_drew1 | refine below_set ?_ GE131.out) | exact HB.out))) : w.heap.size ≤ gb136)); have n4_ := Aside0.mk ((by rw [hg]; exact (below_size (by repeat (first | (with_reducible first | exact HB.out | apply below_alloc | apply pw_below_drewN | apply below_drew1 | refine below_set ?_ GE131.out) | exact HB.out))) : w.heap.size ≤ gb136)); have n5_ := Aside0.mk ((by rw [hg]; exact Nat.ne_of_lt (blk_lt (g := gb131) (o := .cells #[.int .i64 t127, .int .i64 t128, .int .i64 t129] 23 (0, 0)) (by (with_reducible repeat (first | refine blk_drewN ?_ _ | refine blk_drew ?_ | refine blk_alloc ?_ _)); exact BK131.out)) : gb131 ≠ gb136)); have n6_ := Aside0.mk ((by rw [hg]; exact Nat.ne_of_gt (blk_lt (g := gb131) (o := .cells #[.int .i64 t127, .int .i64 t128, .int .i64 t129] 23 (0, 0)) (by (with_reducible repeat (first | refine blk_drewN ?_ _ | refine blk_drew ?_ | refine blk_alloc ?_ _)); exact BK131.out)) : gb136 ≠ gb131)); clear BK131; clear HB; have BK131 := n0_; have HB := n1_; have BK136 := n2_; have GW136 := n3_; have GE136 := n4_; have NB131_136 := n5_; have NB136_131 := n6_; clear n0_ n1_ n2_ n3_ n4_ n5_ n6_; clear hb hbox hg; have hnb11 := NB136_131.out; have hnc11 := NB131_136.out; have hcz12_0 : w10.cell? ⟨gb136, 0, none⟩ = some (.int .i64 0) := (blk_cell BK136.out 0).trans rfl; have hcz12_1 : w10.cell? ⟨gb136, 1, none⟩ = some (.int .i64 0) := (blk_cell BK136.out 1).trans rfl; have hcz12_2 : w10.cell? ⟨gb136, 2, none⟩ = some (.int .i64 0) := (blk_cell BK136.out 2).trans rfl; have hfz12_0 := blk_frozen BK136.out 0; have hfz12_1 := blk_frozen BK136.out 1; have hfz12_2 := blk_frozen BK136.out 2))
 (try simp only [Act.put, List.setIfInBounds_toArray, List.set_cons_zero, List.set_cons_succ])
 go_cut [25] (fun v25 wc => ∃ (kq : Nat) (x25_4 : Bool), v25 = .bool x25_4 ∧ Aside0 (hinterlandlaw01_RollOrder.j0 kq a0 a1 x25_4 t127 t128 t129 t132 t133 t134 = some r) ∧ Aside0 (kq ≤ k) ∧ Aside0 (wc.heap[gb131]? = some (.cells #[.int .i64 t127, .int .i64 t128, .int .i64 t129] 23 (0, 0))) ∧ Aside0 (wc.heap[gb136]? = some (.cells #[.int .i64 t132, .int .i64 t133, .int .i64 t134] 23 (0, 0))) ∧ Aside0 (Below w.heap.size w wc))
 case first =>
  have H := HC5.out
  clear HC5
  by_cases c13 : t130 = 0
  ·rw [if_pos c13] at H
   have c13b0 : (t130 == 0) = true := beq_iff_eq.mpr c13
   have c13b1 : (t130 != 0) = false := bne_eq_false_iff_eq.mpr c13
   clear c13
   (first | rw [c13b0] | (simp only [i64_w, i32_w]; rw [c13b0]) | skip)
   have H' := Aside0.mk H
   clear H
   go_wp2
   go_meet
   case rel => exact ⟨_, ((t135 != 0)), (by first | rfl | (simp; done) | (simp [*]; done) | (refine congrArg (Value.int .i64) ?_; unfold wrap64; omega) | (simp only [shl_one_small _ (by assumption) (by omega)]; done) | (simp [*]; rw [shl_one_small _ (by assumption) (by omega)]; done)), H', ⟨by first | omega | exact Nat.le_refl _⟩, ⟨by (with_reducible repeat (first | refine blk_drewN ?_ _ | refine blk_drew ?_ | refine blk_alloc ?_ _)); refine blk_far ?_ NB131_136.out _; (with_reducible repeat (first | refine blk_drewN ?_ _ | refine blk_drew ?_ | refine blk_alloc ?_ _)); refine blk_far ?_ NB131_136.out _; (with_reducible repeat (first | refine blk_drewN ?_ _ | refine blk_drew ?_ | refine blk_alloc ?_ _)); refine blk_far ?_ NB131_136.out _; (with_reducible repeat (first | refine blk_drewN ?_ _ | refine blk_drew ?_ | refine blk_alloc ?_ _)); exact BK131.out⟩, ⟨by (with_reducible repeat (first | refine blk_drewN ?_ _ | refine blk_drew ?_ | refine blk_alloc ?_ _)); refine blk_put (cs := #[.int .i64 t132, .int .i64 t133, .int .i64 0]) ?_ 2 _ rfl; (with_reducible repeat (first | refine blk_drewN ?_ _ | refine blk_drew ?_ | refine blk_alloc ?_ _)); refine blk_put (cs := #[.int .i64 t132, .int .i64 0, .int .i64 0]) ?_ 1 _ rfl; (with_reducible repeat (first | refine blk_drewN ?_ _ | refine blk_drew ?_ | refine blk_alloc ?_ _)); refine blk_put (cs := #[.int .i64 0, .int .i64 0, .int .i64 0]) ?_ 0 _ rfl; (with_reducible repeat (first | refine blk_drewN ?_ _ | refine blk_drew ?_ | refine blk_alloc ?_ _)); exact BK136.out⟩, ⟨by repeat (first | (with_reducible first | exact HB.out | apply below_alloc | apply pw_below_drewN | apply below_drew1 | refine below_set ?_ GE131.out | refine below_set ?_ GE136.out) | exact HB.out)⟩⟩
  ·rw [if_neg c13] at H
   have c13b0 : (t130 == 0) = false := beq_eq_false_iff_ne.mpr c13
   have c13b1 : (t130 != 0) = true := bne_iff_ne.mpr c13
   (first | rw [c13b0] | (simp only [i64_w, i32_w]; rw [c13b0]) | skip)
   have H' := Aside0.mk H
   clear H
   go_wp2
   go_meet
   case rel => exact ⟨_, (true), (by first | rfl | (simp; done) | (simp [*]; done) | (refine congrArg (Value.int .i64) ?_; unfold wrap64; omega) | (simp only [shl_one_small _ (by assumption) (by omega)]; done) | (simp [*]; rw [shl_one_small _ (by assumption) (by omega)]; done)), H', ⟨by first | omega | exact Nat.le_refl _⟩, ⟨by (with_reducible repeat (first | refine blk_drewN ?_ _ | refine blk_drew ?_ | refine blk_alloc ?_ _)); refine blk_far ?_ NB131_136.out _; (with_reducible repeat (first | refine blk_drewN ?_ _ | refine blk_drew ?_ | refine blk_alloc ?_ _)); refine blk_far ?_ NB131_136.out _; (with_reducible repeat (first | refine blk_drewN ?_ _ | refine blk_drew ?_ | refine blk_alloc ?_ _)); refine blk_far ?_ NB131_136.out _; (with_reducible repeat (first | refine blk_drewN ?_ _ | refine blk_drew ?_ | refine blk_alloc ?_ _)); exact BK131.out⟩, ⟨by (with_reducible repeat (first | refine blk_drewN ?_ _ | refine blk_drew ?_ | refine blk_alloc ?_ _)); refine blk_put (cs := #[.int .i64 t132, .int .i64 t133, .int .i64 0]) ?_ 2 _ rfl; (with_reducible repeat (first | refine blk_drewN ?_ _ | refine blk_drew ?_ | refine blk_alloc ?_ _)); refine blk_put (cs := #[.int .i64 t132, .int .i64 0, .int .i64 0]) ?_ 1 _ rfl; (with_reducible repeat (first | refine blk_drewN ?_ _ | refine blk_drew ?_ | refine blk_alloc ?_ _)); refine blk_put (cs := #[.int .i64 0, .int .i64 0, .int .i64 0]) ?_ 0 _ rfl; (with_reducible repeat (first | refine blk_drewN ?_ _ | refine blk_drew ?_ | refine blk_alloc ?_ _)); exact BK136.out⟩, ⟨by repeat (first | (with_reducible first | exact HB.out | apply below_alloc | apply pw_below_drewN | apply below_drew1 | refine below_set ?_ GE131.out | refine below_set ?_ GE136.out) | exact HB.out)⟩⟩
 case rest =>
  clear HC5
  try clear c1
  try clear p2
  try clear c3
  try clear p6
  try clear c11
  try clear c13
  try clear c13b0
  try clear c13b1
  try clear hcz12_0
  try clear hcz12_1
  try clear hcz12_2
  try clear hcz8_0
  try clear hcz8_1
  try clear hcz8_2
  try clear hfz12_0
  try clear hfz12_1
  try clear hfz12_2
  try clear hfz8_0
  try clear hfz8_1
  try clear hfz8_2
  obtain ⟨kq, x25_4, rfl, HA, HJ4, BK131, BK136, HB⟩ := hcut
  cases kq with
  | zero => exact absurd HA.out (by simp [hinterlandlaw01_RollOrder.j0])
  | succ kj4 =>
   have H := HA.out
   clear HA
   simp only [hinterlandlaw01_RollOrder.j0] at H
   by_cases c14 : x25_4 = true
   ·subst c14
    have H1 : ((hinterlandlaw01_known.f kj4).bind fun t137 => (some t137)) = some r := by rw [if_pos rfl] at H; exact H
    clear H
    have H := H1
    clear H1
    replace H := Option.bind_eq_some_iff.mp H
    obtain ⟨t137, A150, H⟩ := H
    replace H : (some t137) = some r := H
    have A15 := Aside0.mk A150
    clear A150
    obtain rfl := Option.some.inj H
    go_wp2_with (first | ((with_reducible refine gate_callee (f := 14) rfl ?_); refine goesL_ (some 26) rfl rfl Try.func14 (by kernel_rfl) rfl #[] rfl (by (try simp only [List.map_toArray, List.map_cons, List.map_nil]); first | done | rfl | (simp only [List.length_drop, List.length_take]; rfl)) ?_; (with_reducible refine (hinterlandlaw01_known.calls kj4  t137 _ A15.out).mono ?_); rintro e w16 ⟨rfl, hb⟩; refine ⟨_, rfl, ?_⟩; have n0_ := Aside0.mk (blk_below (g := gb131) (o := .cells #[.int .i64 t127, .int .i64 t128, .int .i64 t129] 23 (0, 0)) (by (with_reducible repeat (first | refine blk_drewN ?_ _ | refine blk_drew ?_ | refine blk_alloc ?_ _)); exact BK131.out) hb); have n1_ := Aside0.mk (blk_below (g := gb136) (o := .cells #[.int .i64 t132, .int .i64 t133, .int .i64 t134] 23 (0, 0)) (by (with_reducible repeat (first | refine blk_drewN ?_ _ | refine blk_drew ?_ | refine blk_alloc ?_ _)); exact BK136.out) hb); have n2_ := Aside0.mk (below_step (by repeat (first | (with_reducible first | exact HB.out | apply below_alloc | apply pw_below_drewN | apply below_drew1 | refine below_set ?_ GE131.out | refine below_set ?_ GE136.out) | exact HB.out)) hb); clear BK131; clear BK136; clear HB; have BK131 := n0_; have BK136 := n1_; have HB := n2_; clear n0_ n1_ n2_; (try clear hb); (try clear hb2); (try clear hk); (try clear hi)))
    all_goals (try (exfalso; simp_all; done))
    go_ret
    exact ⟨by first | rfl | (simp [errW_none, errW_some] <;> rfl) | (simp [*, errW_none, errW_some] <;> rfl), by repeat (first | (with_reducible first | exact HB.out | apply below_alloc | apply pw_below_drewN | apply below_drew1 | refine below_set ?_ GE131.out | refine below_set ?_ GE136.out) | exact HB.out)⟩
   ·replace c14 := Bool.eq_false_iff.mpr c14
    subst c14
    have H1 : (if t127 < t132 then (if (true == (decide (a0 < a1))) = true then (if ((t127 == t132 && (t128 == t133 && (t129 == t134))) == (a0 == a1)) = true then ((hinterlandlaw01_known.f kj4).bind fun t138 => (some t138)) else (some false)) else (some false)) else (if t127 = t132 then (if t128 < t133 then (if (true == (decide (a0 < a1))) = true then (if ((t127 == t132 && (t128 == t133 && (t129 == t134))) == (a0 == a1)) = true then ((hinterlandlaw01_known.f kj4).bind fun t139 => (some t139)) else (some false)) else (some false)) else (if t128 = t133 then (if ((decide (t129 < t134)) == (decide (a0 < a1))) = true then (if ((t127 == t132 && (t128 == t133 && (t129 == t134))) == (a0 == a1)) = true then ((hinterlandlaw01_known.f kj4).bind fun t140 => (some t140)) else (some false)) else (some false)) else (if (false == (decide (a0 < a1))) = true then (if ((t127 == t132 && (t128 == t133 && (t129 == t134))) == (a0 == a1)) = true then ((hinterlandlaw01_known.f kj4).bind fun t141 => (some t141)) else (some false)) else (some false)))) else (if (false == (decide (a0 < a1))) = true then (if ((t127 == t132 && (t128 == t133 && (t129 == t134))) == (a0 == a1)) = true then ((hinterlandlaw01_known.f kj4).bind fun t142 => (some t142)) else (some false)) else (some false)))) = some r := by rw [if_neg (show ¬ (false = true) by decide)] at H; exact H
    clear H
    have H := H1
    clear H1
    by_cases c17 : t127 < t132
    ·rw [if_pos c17] at H
     have c17b0 : decide (t127 < t132) = true := decide_eq_true c17
     clear c17
     by_cases c18 : (true == (decide (a0 < a1))) = true
     ·rw [if_pos c18] at H
      have c18b0 : (true == (decide (a0 < a1))) = true := c18
      (try (have c18b1 : decide (true = (decide (a0 < a1))) = true := by simpa using c18))
      (try (have c18b2 : (true == (decide (a0 < a1))) = true := by simpa using c18))
      clear c18
      by_cases c19 : ((t127 == t132 && (t128 == t133 && (t129 == t134))) == (a0 == a1)) = true
      ·rw [if_pos c19] at H
       have c19b0 : ((t127 == t132 && (t128 == t133 && (t129 == t134))) == (a0 == a1)) = true := c19
       (try (have c19b1 : decide ((t127 == t132 && (t128 == t133 && (t129 == t134))) = (a0 == a1)) = true := by simpa using c19))
       (try (have c19b2 : ((t127 == t132 && (t128 == t133 && (t129 == t134))) == (a0 == a1)) = true := by simpa using c19))
       clear c19
       replace H := Option.bind_eq_some_iff.mp H
       obtain ⟨t138, A200, H⟩ := H
       replace H : (some t138) = some r := H
       have A20 := Aside0.mk A200
       clear A200
       obtain rfl := Option.some.inj H
       have hnb21 := NB131_136.out
       have hnc21 := NB136_131.out
       have hcz22_0 : wc.cell? ⟨gb131, 0, none⟩ = some (.int .i64 t127) := (blk_cell BK131.out 0).trans rfl
       have hcz22_1 : wc.cell? ⟨gb131, 1, none⟩ = some (.int .i64 t128) := (blk_cell BK131.out 1).trans rfl
       have hcz22_2 : wc.cell? ⟨gb131, 2, none⟩ = some (.int .i64 t129) := (blk_cell BK131.out 2).trans rfl
       have hfz22_0 := blk_frozen BK131.out 0
       have hfz22_1 := blk_frozen BK131.out 1
       have hfz22_2 := blk_frozen BK131.out 2
       have hcz23_0 : wc.cell? ⟨gb136, 0, none⟩ = some (.int .i64 t132) := (blk_cell BK136.out 0).trans rfl
       have hcz23_1 : wc.cell? ⟨gb136, 1, none⟩ = some (.int .i64 t133) := (blk_cell BK136.out 1).trans rfl
       have hcz23_2 : wc.cell? ⟨gb136, 2, none⟩ = some (.int .i64 t134) := (blk_cell BK136.out 2).trans rfl
       have hfz23_0 := blk_frozen BK136.out 0
       have hfz23_1 := blk_frozen BK136.out 1
       have hfz23_2 := blk_frozen BK136.out 2
       go_wp2_with (first | (go_at_call 14; (with_reducible refine (hinterlandlaw01_known.calls kj4  t138 _ A20.out).mono ?_); rintro e w24 ⟨rfl, hb⟩; have n0_ := Aside0.mk (blk_below (g := gb131) (o := .cells #[.int .i64 t127, .int .i64 t128, .int .i64 t129] 23 (0, 0)) (by (with_reducible repeat (first | refine blk_drewN ?_ _ | refine blk_drew ?_ | refine blk_alloc ?_ _)); exact BK131.out) hb); have n1_ := Aside0.mk (blk_below (g := gb136) (o := .cells #[.int .i64 t132, .int .i64 t133, .int .i64 t134] 23 (0, 0)) (by (with_reducible repeat (first | refine blk_drewN ?_ _ | refine blk_drew ?_ | refine blk_alloc ?_ _)); exact BK136.out) hb); have n2_ := Aside0.mk (below_step (by repeat (first | (with_reducible first | exact HB.out | apply below_alloc | apply pw_below_drewN | apply below_drew1 | refine below_set ?_ GE131.out | refine below_set ?_ GE136.out) | exact HB.out)) hb); clear BK131; clear BK136; clear HB; have BK131 := n0_; have BK136 := n1_; have HB := n2_; clear n0_ n1_ n2_; (try clear hb); (try clear hb2); (try clear hk); (try clear hi)))
       all_goals (try (exfalso; simp_all; done))
       all_goals (try (exfalso; have hx_ := c18b0; simp [c17b0, c19b0] at hx_; first | done | exact absurd hx_ (by assumption) | exact absurd (by assumption) hx_))
       all_goals (try (exfalso; have hx_ := c18b2; simp [c17b0, c19b0] at hx_; first | done | exact absurd hx_ (by assumption) | exact absurd (by assumption) hx_))
       all_goals (try (exfalso; have hx_ := c19b0; simp [c17b0, c18b0] at hx_; first | done | exact absurd hx_ (by assumption) | exact absurd (by assumption) hx_))
       all_goals (try (exfalso; have hx_ := c19b2; simp [c17b0, c18b0] at hx_; first | done | exact absurd hx_ (by assumption) | exact absurd (by assumption) hx_))
       go_ret
       exact ⟨by first | rfl | (simp [errW_none, errW_some] <;> rfl) | (simp [*, errW_none, errW_some] <;> rfl), by repeat (first | (with_reducible first | exact HB.out | apply below_alloc | apply pw_below_drewN | apply below_drew1 | refine below_set ?_ GE131.out | refine below_set ?_ GE136.out) | exact HB.out)⟩
      ·rw [if_neg c19] at H
       have c19b0 : ((t127 == t132 && (t128 == t133 && (t129 == t134))) == (a0 == a1)) = false := by simpa using c19
       (try (have c19b1 : decide ((t127 == t132 && (t128 == t133 && (t129 == t134))) = (a0 == a1)) = false := by simpa using c19))
       (try (have c19b2 : ((t127 == t132 && (t128 == t133 && (t129 == t134))) == (a0 == a1)) = false := by simpa using c19))
       (try (have c19b3 : ¬ ((t127 == t132 && (t128 == t133 && (t129 == t134))) = (a0 == a1)) := by simpa using c19))
       clear c19
       obtain rfl := Option.some.inj H
       have hnb25 := NB131_136.out
       have hnc25 := NB136_131.out
       have hcz26_0 : wc.cell? ⟨gb131, 0, none⟩ = some (.int .i64 t127) := (blk_cell BK131.out 0).trans rfl
       have hcz26_1 : wc.cell? ⟨gb131, 1, none⟩ = some (.int .i64 t128) := (blk_cell BK131.out 1).trans rfl
       have hcz26_2 : wc.cell? ⟨gb131, 2, none⟩ = some (.int .i64 t129) := (blk_cell BK131.out 2).trans rfl
       have hfz26_0 := blk_frozen BK131.out 0
       have hfz26_1 := blk_frozen BK131.out 1
       have hfz26_2 := blk_frozen BK131.out 2
       have hcz27_0 : wc.cell? ⟨gb136, 0, none⟩ = some (.int .i64 t132) := (blk_cell BK136.out 0).trans rfl
       have hcz27_1 : wc.cell? ⟨gb136, 1, none⟩ = some (.int .i64 t133) := (blk_cell BK136.out 1).trans rfl
       have hcz27_2 : wc.cell? ⟨gb136, 2, none⟩ = some (.int .i64 t134) := (blk_cell BK136.out 2).trans rfl
       have hfz27_0 := blk_frozen BK136.out 0
       have hfz27_1 := blk_frozen BK136.out 1
       have hfz27_2 := blk_frozen BK136.out 2
       go_wp2
       all_goals (try (exfalso; simp_all; done))
       all_goals (try (exfalso; have hx_ := c18b0; simp [c17b0, c19b0] at hx_; first | done | exact absurd hx_ (by assumption) | exact absurd (by assumption) hx_))
       all_goals (try (exfalso; have hx_ := c18b2; simp [c17b0, c19b0] at hx_; first | done | exact absurd hx_ (by assumption) | exact absurd (by assumption) hx_))
       all_goals (try (exfalso; have hx_ := c19b0; simp [c17b0, c18b0] at hx_; first | done | exact absurd hx_ (by assumption) | exact absurd (by assumption) hx_))
       all_goals (try (exfalso; have hx_ := c19b2; simp [c17b0, c18b0] at hx_; first | done | exact absurd hx_ (by assumption) | exact absurd (by assumption) hx_))
       go_ret
       exact ⟨by first | rfl | (simp [errW_none, errW_some] <;> rfl) | (simp [*, errW_none, errW_some] <;> rfl), by repeat (first | (with_reducible first | exact HB.out | apply below_alloc | apply pw_below_drewN | apply below_drew1 | refine below_set ?_ GE131.out | refine below_set ?_ GE136.out) | exact HB.out)⟩
     ·rw [if_neg c18] at H
      have c18b0 : (true == (decide (a0 < a1))) = false := by simpa using c18
      (try (have c18b1 : decide (true = (decide (a0 < a1))) = false := by simpa using c18))
      (try (have c18b2 : (true == (decide (a0 < a1))) = false := by simpa using c18))
      (try (have c18b3 : ¬ (true = (decide (a0 < a1))) := by simpa using c18))
      clear c18
      obtain rfl := Option.some.inj H
      have hnb28 := NB131_136.out
      have hnc28 := NB136_131.out
      have hcz29_0 : wc.cell? ⟨gb131, 0, none⟩ = some (.int .i64 t127) := (blk_cell BK131.out 0).trans rfl
      have hcz29_1 : wc.cell? ⟨gb131, 1, none⟩ = some (.int .i64 t128) := (blk_cell BK131.out 1).trans rfl
      have hcz29_2 : wc.cell? ⟨gb131, 2, none⟩ = some (.int .i64 t129) := (blk_cell BK131.out 2).trans rfl
      have hfz29_0 := blk_frozen BK131.out 0
      have hfz29_1 := blk_frozen BK131.out 1
      have hfz29_2 := blk_frozen BK131.out 2
      have hcz30_0 : wc.cell? ⟨gb136, 0, none⟩ = some (.int .i64 t132) := (blk_cell BK136.out 0).trans rfl
      have hcz30_1 : wc.cell? ⟨gb136, 1, none⟩ = some (.int .i64 t133) := (blk_cell BK136.out 1).trans rfl
      have hcz30_2 : wc.cell? ⟨gb136, 2, none⟩ = some (.int .i64 t134) := (blk_cell BK136.out 2).trans rfl
      have hfz30_0 := blk_frozen BK136.out 0
      have hfz30_1 := blk_frozen BK136.out 1
      have hfz30_2 := blk_frozen BK136.out 2
      go_wp2
      all_goals (try (exfalso; simp_all; done))
      all_goals (try (exfalso; have hx_ := c18b0; simp [c17b0] at hx_; first | done | exact absurd hx_ (by assumption) | exact absurd (by assumption) hx_))
      all_goals (try (exfalso; have hx_ := c18b2; simp [c17b0] at hx_; first | done | exact absurd hx_ (by assumption) | exact absurd (by assumption) hx_))
      go_ret
      exact ⟨by first | rfl | (simp [errW_none, errW_some] <;> rfl) | (simp [*, errW_none, errW_some] <;> rfl), by repeat (first | (with_reducible first | exact HB.out | apply below_alloc | apply pw_below_drewN | apply below_drew1 | refine below_set ?_ GE131.out | refine below_set ?_ GE136.out) | exact HB.out)⟩
    ·rw [if_neg c17] at H
     have c17b0 : decide (t127 < t132) = false := decide_eq_false c17
     clear c17
     by_cases c31 : t127 = t132
     ·rw [if_pos c31] at H
      have c31b0 : (t127 == t132) = true := beq_iff_eq.mpr c31
      have c31b1 : (t127 != t132) = false := bne_eq_false_iff_eq.mpr c31
      clear c31
      by_cases c32 : t128 < t133
      ·rw [if_pos c32] at H
       have c32b0 : decide (t128 < t133) = true := decide_eq_true c32
       clear c32
       by_cases c33 : (true == (decide (a0 < a1))) = true
       ·rw [if_pos c33] at H
        have c33b0 : (true == (decide (a0 < a1))) = true := c33
        (try (have c33b1 : decide (true = (decide (a0 < a1))) = true := by simpa using c33))
        (try (have c33b2 : (true == (decide (a0 < a1))) = true := by simpa using c33))
        clear c33
        by_cases c34 : ((t127 == t132 && (t128 == t133 && (t129 == t134))) == (a0 == a1)) = true
        ·rw [if_pos c34] at H
         have c34b0 : ((t127 == t132 && (t128 == t133 && (t129 == t134))) == (a0 == a1)) = true := c34
         (try (have c34b1 : decide ((t127 == t132 && (t128 == t133 && (t129 == t134))) = (a0 == a1)) = true := by simpa using c34))
         (try (have c34b2 : ((t127 == t132 && (t128 == t133 && (t129 == t134))) == (a0 == a1)) = true := by simpa using c34))
         clear c34
         replace H := Option.bind_eq_some_iff.mp H
         obtain ⟨t139, A350, H⟩ := H
         replace H : (some t139) = some r := H
         have A35 := Aside0.mk A350
         clear A350
         obtain rfl := Option.some.inj H
         have hnb36 := NB131_136.out
         have hnc36 := NB136_131.out
         have hcz37_0 : wc.cell? ⟨gb131, 0, none⟩ = some (.int .i64 t127) := (blk_cell BK131.out 0).trans rfl
         have hcz37_1 : wc.cell? ⟨gb131, 1, none⟩ = some (.int .i64 t128) := (blk_cell BK131.out 1).trans rfl
         have hcz37_2 : wc.cell? ⟨gb131, 2, none⟩ = some (.int .i64 t129) := (blk_cell BK131.out 2).trans rfl
         have hfz37_0 := blk_frozen BK131.out 0
         have hfz37_1 := blk_frozen BK131.out 1
         have hfz37_2 := blk_frozen BK131.out 2
         have hcz38_0 : wc.cell? ⟨gb136, 0, none⟩ = some (.int .i64 t132) := (blk_cell BK136.out 0).trans rfl
         have hcz38_1 : wc.cell? ⟨gb136, 1, none⟩ = some (.int .i64 t133) := (blk_cell BK136.out 1).trans rfl
         have hcz38_2 : wc.cell? ⟨gb136, 2, none⟩ = some (.int .i64 t134) := (blk_cell BK136.out 2).trans rfl
         have hfz38_0 := blk_frozen BK136.out 0
         have hfz38_1 := blk_frozen BK136.out 1
         have hfz38_2 := blk_frozen BK136.out 2
         go_wp2_with (first | (go_at_call 14; (with_reducible refine (hinterlandlaw01_known.calls kj4  t139 _ A35.out).mono ?_); rintro e w39 ⟨rfl, hb⟩; have n0_ := Aside0.mk (blk_below (g := gb131) (o := .cells #[.int .i64 t127, .int .i64 t128, .int .i64 t129] 23 (0, 0)) (by (with_reducible repeat (first | refine blk_drewN ?_ _ | refine blk_drew ?_ | refine blk_alloc ?_ _)); exact BK131.out) hb); have n1_ := Aside0.mk (blk_below (g := gb136) (o := .cells #[.int .i64 t132, .int .i64 t133, .int .i64 t134] 23 (0, 0)) (by (with_reducible repeat (first | refine blk_drewN ?_ _ | refine blk_drew ?_ | refine blk_alloc ?_ _)); exact BK136.out) hb); have n2_ := Aside0.mk (below_step (by repeat (first | (with_reducible first | exact HB.out | apply below_alloc | apply pw_below_drewN | apply below_drew1 | refine below_set ?_ GE131.out | refine below_set ?_ GE136.out) | exact HB.out)) hb); clear BK131; clear BK136; clear HB; have BK131 := n0_; have BK136 := n1_; have HB := n2_; clear n0_ n1_ n2_; (try clear hb); (try clear hb2); (try clear hk); (try clear hi)))
         all_goals (try (exfalso; simp_all; done))
         all_goals (try (exfalso; have hx_ := c33b0; simp [c17b0, c31b0, c32b0, c34b0] at hx_; first | done | exact absurd hx_ (by assumption) | exact absurd (by assumption) hx_))
         all_goals (try (exfalso; have hx_ := c33b2; simp [c17b0, c31b0, c32b0, c34b0] at hx_; first | done | exact absurd hx_ (by assumption) | exact absurd (by assumption) hx_))
         all_goals (try (exfalso; have hx_ := c34b0; simp [c17b0, c31b0, c32b0, c33b0] at hx_; first | done | exact absurd hx_ (by assumption) | exact absurd (by assumption) hx_))
         all_goals (try (exfalso; have hx_ := c34b2; simp [c17b0, c31b0, c32b0, c33b0] at hx_; first | done | exact absurd hx_ (by assumption) | exact absurd (by assumption) hx_))
         go_ret
         exact ⟨by first | rfl | (simp [errW_none, errW_some] <;> rfl) | (simp [*, errW_none, errW_some] <;> rfl), by repeat (first | (with_reducible first | exact HB.out | apply below_alloc | apply pw_below_drewN | apply below_drew1 | refine below_set ?_ GE131.out | refine below_set ?_ GE136.out) | exact HB.out)⟩
        ·rw [if_neg c34] at H
         have c34b0 : ((t127 == t132 && (t128 == t133 && (t129 == t134))) == (a0 == a1)) = false := by simpa using c34
         (try (have c34b1 : decide ((t127 == t132 && (t128 == t133 && (t129 == t134))) = (a0 == a1)) = false := by simpa using c34))
         (try (have c34b2 : ((t127 == t132 && (t128 == t133 && (t129 == t134))) == (a0 == a1)) = false := by simpa using c34))
         (try (have c34b3 : ¬ ((t127 == t132 && (t128 == t133 && (t129 == t134))) = (a0 == a1)) := by simpa using c34))
         clear c34
         obtain rfl := Option.some.inj H
         have hnb40 := NB131_136.out
         have hnc40 := NB136_131.out
         have hcz41_0 : wc.cell? ⟨gb131, 0, none⟩ = some (.int .i64 t127) := (blk_cell BK131.out 0).trans rfl
         have hcz41_1 : wc.cell? ⟨gb131, 1, none⟩ = some (.int .i64 t128) := (blk_cell BK131.out 1).trans rfl
         have hcz41_2 : wc.cell? ⟨gb131, 2, none⟩ = some (.int .i64 t129) := (blk_cell BK131.out 2).trans rfl
         have hfz41_0 := blk_frozen BK131.out 0
         have hfz41_1 := blk_frozen BK131.out 1
         have hfz41_2 := blk_frozen BK131.out 2
         have hcz42_0 : wc.cell? ⟨gb136, 0, none⟩ = some (.int .i64 t132) := (blk_cell BK136.out 0).trans rfl
         have hcz42_1 : wc.cell? ⟨gb136, 1, none⟩ = some (.int .i64 t133) := (blk_cell BK136.out 1).trans rfl
         have hcz42_2 : wc.cell? ⟨gb136, 2, none⟩ = some (.int .i64 t134) := (blk_cell BK136.out 2).trans rfl
         have hfz42_0 := blk_frozen BK136.out 0
         have hfz42_1 := blk_frozen BK136.out 1
         have hfz42_2 := blk_frozen BK136.out 2
         go_wp2
         all_goals (try (exfalso; simp_all; done))
         all_goals (try (exfalso; have hx_ := c33b0; simp [c17b0, c31b0, c32b0, c34b0] at hx_; first | done | exact absurd hx_ (by assumption) | exact absurd (by assumption) hx_))
         all_goals (try (exfalso; have hx_ := c33b2; simp [c17b0, c31b0, c32b0, c34b0] at hx_; first | done | exact absurd hx_ (by assumption) | exact absurd (by assumption) hx_))
         all_goals (try (exfalso; have hx_ := c34b0; simp [c17b0, c31b0, c32b0, c33b0] at hx_; first | done | exact absurd hx_ (by assumption) | exact absurd (by assumption) hx_))
         all_goals (try (exfalso; have hx_ := c34b2; simp [c17b0, c31b0, c32b0, c33b0] at hx_; first | done | exact absurd hx_ (by assumption) | exact absurd (by assumption) hx_))
         go_ret
         exact ⟨by first | rfl | (simp [errW_none, errW_some] <;> rfl) | (simp [*, errW_none, errW_some] <;> rfl), by repeat (first | (with_reducible first | exact HB.out | apply below_alloc | apply pw_below_drewN | apply below_drew1 | refine below_set ?_ GE131.out | refine below_set ?_ GE136.out) | exact HB.out)⟩
       ·rw [if_neg c33] at H
        have c33b0 : (true == (decide (a0 < a1))) = false := by simpa using c33
        (try (have c33b1 : decide (true = (decide (a0 < a1))) = false := by simpa using c33))
        (try (have c33b2 : (true == (decide (a0 < a1))) = false := by simpa using c33))
        (try (have c33b3 : ¬ (true = (decide (a0 < a1))) := by simpa using c33))
        clear c33
        obtain rfl := Option.some.inj H
        have hnb43 := NB131_136.out
        have hnc43 := NB136_131.out
        have hcz44_0 : wc.cell? ⟨gb131, 0, none⟩ = some (.int .i64 t127) := (blk_cell BK131.out 0).trans rfl
        have hcz44_1 : wc.cell? ⟨gb131, 1, none⟩ = some (.int .i64 t128) := (blk_cell BK131.out 1).trans rfl
        have hcz44_2 : wc.cell? ⟨gb131, 2, none⟩ = some (.int .i64 t129) := (blk_cell BK131.out 2).trans rfl
        have hfz44_0 := blk_frozen BK131.out 0
        have hfz44_1 := blk_frozen BK131.out 1
        have hfz44_2 := blk_frozen BK131.out 2
        have hcz45_0 : wc.cell? ⟨gb136, 0, none⟩ = some (.int .i64 t132) := (blk_cell BK136.out 0).trans rfl
        have hcz45_1 : wc.cell? ⟨gb136, 1, none⟩ = some (.int .i64 t133) := (blk_cell BK136.out 1).trans rfl
        have hcz45_2 : wc.cell? ⟨gb136, 2, none⟩ = some (.int .i64 t134) := (blk_cell BK136.out 2).trans rfl
        have hfz45_0 := blk_frozen BK136.out 0
        have hfz45_1 := blk_frozen BK136.out 1
        have hfz45_2 := blk_frozen BK136.out 2
        go_wp2
        all_goals (try (exfalso; simp_all; done))
        all_goals (try (exfalso; have hx_ := c33b0; simp [c17b0, c31b0, c32b0] at hx_; first | done | exact absurd hx_ (by assumption) | exact absurd (by assumption) hx_))
        all_goals (try (exfalso; have hx_ := c33b2; simp [c17b0, c31b0, c32b0] at hx_; first | done | exact absurd hx_ (by assumption) | exact absurd (by assumption) hx_))
        go_ret
        exact ⟨by first | rfl | (simp [errW_none, errW_some] <;> rfl) | (simp [*, errW_none, errW_some] <;> rfl), by repeat (first | (with_reducible first | exact HB.out | apply below_alloc | apply pw_below_drewN | apply below_drew1 | refine below_set ?_ GE131.out | refine below_set ?_ GE136.out) | exact HB.out)⟩
      ·rw [if_neg c32] at H
       have c32b0 : decide (t128 < t133) = false := decide_eq_false c32
       clear c32
       by_cases c46 : t128 = t133
       ·rw [if_pos c46] at H
        have c46b0 : (t128 == t133) = true := beq_iff_eq.mpr c46
        have c46b1 : (t128 != t133) = false := bne_eq_false_iff_eq.mpr c46
        clear c46
        by_cases c47 : ((decide (t129 < t134)) == (decide (a0 < a1))) = true
        ·rw [if_pos c47] at H
         have c47b0 : ((decide (t129 < t134)) == (decide (a0 < a1))) = true := c47
         (try (have c47b1 : decide ((decide (t129 < t134)) = (decide (a0 < a1))) = true := by simpa using c47))
         (try (have c47b2 : ((decide (t129 < t134)) == (decide (a0 < a1))) = true := by simpa using c47))
         clear c47
         by_cases c48 : ((t127 == t132 && (t128 == t133 && (t129 == t134))) == (a0 == a1)) = true
         ·rw [if_pos c48] at H
          have c48b0 : ((t127 == t132 && (t128 == t133 && (t129 == t134))) == (a0 == a1)) = true := c48
          (try (have c48b1 : decide ((t127 == t132 && (t128 == t133 && (t129 == t134))) = (a0 == a1)) = true := by simpa using c48))
          (try (have c48b2 : ((t127 == t132 && (t128 == t133 && (t129 == t134))) == (a0 == a1)) = true := by simpa using c48))
          clear c48
          replace H := Option.bind_eq_some_iff.mp H
          obtain ⟨t140, A490, H⟩ := H
          replace H : (some t140) = some r := H
          have A49 := Aside0.mk A490
          clear A490
          obtain rfl := Option.some.inj H
          have hnb50 := NB131_136.out
          have hnc50 := NB136_131.out
          have hcz51_0 : wc.cell? ⟨gb131, 0, none⟩ = some (.int .i64 t127) := (blk_cell BK131.out 0).trans rfl
          have hcz51_1 : wc.cell? ⟨gb131, 1, none⟩ = some (.int .i64 t128) := (blk_cell BK131.out 1).trans rfl
          have hcz51_2 : wc.cell? ⟨gb131, 2, none⟩ = some (.int .i64 t129) := (blk_cell BK131.out 2).trans rfl
          have hfz51_0 := blk_frozen BK131.out 0
          have hfz51_1 := blk_frozen BK131.out 1
          have hfz51_2 := blk_frozen BK131.out 2
          have hcz52_0 : wc.cell? ⟨gb136, 0, none⟩ = some (.int .i64 t132) := (blk_cell BK136.out 0).trans rfl
          have hcz52_1 : wc.cell? ⟨gb136, 1, none⟩ = some (.int .i64 t133) := (blk_cell BK136.out 1).trans rfl
          have hcz52_2 : wc.cell? ⟨gb136, 2, none⟩ = some (.int .i64 t134) := (blk_cell BK136.out 2).trans rfl
          have hfz52_0 := blk_frozen BK136.out 0
          have hfz52_1 := blk_frozen BK136.out 1
          have hfz52_2 := blk_frozen BK136.out 2
          go_wp2_with (first | (go_at_call 14; (with_reducible refine (hinterlandlaw01_known.calls kj4  t140 _ A49.out).mono ?_); rintro e w53 ⟨rfl, hb⟩; have n0_ := Aside0.mk (blk_below (g := gb131) (o := .cells #[.int .i64 t127, .int .i64 t128, .int .i64 t129] 23 (0, 0)) (by (with_reducible repeat (first | refine blk_drewN ?_ _ | refine blk_drew ?_ | refine blk_alloc ?_ _)); exact BK131.out) hb); have n1_ := Aside0.mk (blk_below (g := gb136) (o := .cells #[.int .i64 t132, .int .i64 t133, .int .i64 t134] 23 (0, 0)) (by (with_reducible repeat (first | refine blk_drewN ?_ _ | refine blk_drew ?_ | refine blk_alloc ?_ _)); exact BK136.out) hb); have n2_ := Aside0.mk (below_step (by repeat (first | (with_reducible first | exact HB.out | apply below_alloc | apply pw_below_drewN | apply below_drew1 | refine below_set ?_ GE131.out | refine below_set ?_ GE136.out) | exact HB.out)) hb); clear BK131; clear BK136; clear HB; have BK131 := n0_; have BK136 := n1_; have HB := n2_; clear n0_ n1_ n2_; (try clear hb); (try clear hb2); (try clear hk); (try clear hi)))
          all_goals (try (exfalso; simp_all; done))
          all_goals (try (exfalso; have hx_ := c47b0; simp [c17b0, c31b0, c32b0, c46b0, c48b0] at hx_; first | done | exact absurd hx_ (by assumption) | exact absurd (by assumption) hx_))
          all_goals (try (exfalso; have hx_ := c47b2; simp [c17b0, c31b0, c32b0, c46b0, c48b0] at hx_; first | done | exact absurd hx_ (by assumption) | exact absurd (by assumption) hx_))
          all_goals (try (exfalso; have hx_ := c48b0; simp [c17b0, c31b0, c32b0, c46b0, c47b0] at hx_; first | done | exact absurd hx_ (by assumption) | exact absurd (by assumption) hx_))
          all_goals (try (exfalso; have hx_ := c48b2; simp [c17b0, c31b0, c32b0, c46b0, c47b0] at hx_; first | done | exact absurd hx_ (by assumption) | exact absurd (by assumption) hx_))
          go_ret
          exact ⟨by first | rfl | (simp [errW_none, errW_some] <;> rfl) | (simp [*, errW_none, errW_some] <;> rfl), by repeat (first | (with_reducible first | exact HB.out | apply below_alloc | apply pw_below_drewN | apply below_drew1 | refine below_set ?_ GE131.out | refine below_set ?_ GE136.out) | exact HB.out)⟩
         ·rw [if_neg c48] at H
          have c48b0 : ((t127 == t132 && (t128 == t133 && (t129 == t134))) == (a0 == a1)) = false := by simpa using c48
          (try (have c48b1 : decide ((t127 == t132 && (t128 == t133 && (t129 == t134))) = (a0 == a1)) = false := by simpa using c48))
          (try (have c48b2 : ((t127 == t132 && (t128 == t133 && (t129 == t134))) == (a0 == a1)) = false := by simpa using c48))
          (try (have c48b3 : ¬ ((t127 == t132 && (t128 == t133 && (t129 == t134))) = (a0 == a1)) := by simpa using c48))
          clear c48
          obtain rfl := Option.some.inj H
          have hnb54 := NB131_136.out
          have hnc54 := NB136_131.out
          have hcz55_0 : wc.cell? ⟨gb131, 0, none⟩ = some (.int .i64 t127) := (blk_cell BK131.out 0).trans rfl
          have hcz55_1 : wc.cell? ⟨gb131, 1, none⟩ = some (.int .i64 t128) := (blk_cell BK131.out 1).trans rfl
          have hcz55_2 : wc.cell? ⟨gb131, 2, none⟩ = some (.int .i64 t129) := (blk_cell BK131.out 2).trans rfl
          have hfz55_0 := blk_frozen BK131.out 0
          have hfz55_1 := blk_frozen BK131.out 1
          have hfz55_2 := blk_frozen BK131.out 2
          have hcz56_0 : wc.cell? ⟨gb136, 0, none⟩ = some (.int .i64 t132) := (blk_cell BK136.out 0).trans rfl
          have hcz56_1 : wc.cell? ⟨gb136, 1, none⟩ = some (.int .i64 t133) := (blk_cell BK136.out 1).trans rfl
          have hcz56_2 : wc.cell? ⟨gb136, 2, none⟩ = some (.int .i64 t134) := (blk_cell BK136.out 2).trans rfl
          have hfz56_0 := blk_frozen BK136.out 0
          have hfz56_1 := blk_frozen BK136.out 1
          have hfz56_2 := blk_frozen BK136.out 2
          go_wp2
          all_goals (try (exfalso; simp_all; done))
          all_goals (try (exfalso; have hx_ := c47b0; simp [c17b0, c31b0, c32b0, c46b0, c48b0] at hx_; first | done | exact absurd hx_ (by assumption) | exact absurd (by assumption) hx_))
          all_goals (try (exfalso; have hx_ := c47b2; simp [c17b0, c31b0, c32b0, c46b0, c48b0] at hx_; first | done | exact absurd hx_ (by assumption) | exact absurd (by assumption) hx_))
          all_goals (try (exfalso; have hx_ := c48b0; simp [c17b0, c31b0, c32b0, c46b0, c47b0] at hx_; first | done | exact absurd hx_ (by assumption) | exact absurd (by assumption) hx_))
          all_goals (try (exfalso; have hx_ := c48b2; simp [c17b0, c31b0, c32b0, c46b0, c47b0] at hx_; first | done | exact absurd hx_ (by assumption) | exact absurd (by assumption) hx_))
          go_ret
          exact ⟨by first | rfl | (simp [errW_none, errW_some] <;> rfl) | (simp [*, errW_none, errW_some] <;> rfl), by repeat (first | (with_reducible first | exact HB.out | apply below_alloc | apply pw_below_drewN | apply below_drew1 | refine below_set ?_ GE131.out | refine below_set ?_ GE136.out) | exact HB.out)⟩
        ·rw [if_neg c47] at H
         have c47b0 : ((decide (t129 < t134)) == (decide (a0 < a1))) = false := by simpa using c47
         (try (have c47b1 : decide ((decide (t129 < t134)) = (decide (a0 < a1))) = false := by simpa using c47))
         (try (have c47b2 : ((decide (t129 < t134)) == (decide (a0 < a1))) = false := by simpa using c47))
         (try (have c47b3 : ¬ ((decide (t129 < t134)) = (decide (a0 < a1))) := by simpa using c47))
         clear c47
         obtain rfl := Option.some.inj H
         have hnb57 := NB131_136.out
         have hnc57 := NB136_131.out
         have hcz58_0 : wc.cell? ⟨gb131, 0, none⟩ = some (.int .i64 t127) := (blk_cell BK131.out 0).trans rfl
         have hcz58_1 : wc.cell? ⟨gb131, 1, none⟩ = some (.int .i64 t128) := (blk_cell BK131.out 1).trans rfl
         have hcz58_2 : wc.cell? ⟨gb131, 2, none⟩ = some (.int .i64 t129) := (blk_cell BK131.out 2).trans rfl
         have hfz58_0 := blk_frozen BK131.out 0
         have hfz58_1 := blk_frozen BK131.out 1
         have hfz58_2 := blk_frozen BK131.out 2
         have hcz59_0 : wc.cell? ⟨gb136, 0, none⟩ = some (.int .i64 t132) := (blk_cell BK136.out 0).trans rfl
         have hcz59_1 : wc.cell? ⟨gb136, 1, none⟩ = some (.int .i64 t133) := (blk_cell BK136.out 1).trans rfl
         have hcz59_2 : wc.cell? ⟨gb136, 2, none⟩ = some (.int .i64 t134) := (blk_cell BK136.out 2).trans rfl
         have hfz59_0 := blk_frozen BK136.out 0
         have hfz59_1 := blk_frozen BK136.out 1
         have hfz59_2 := blk_frozen BK136.out 2
         go_wp2
         all_goals (try (exfalso; simp_all; done))
         all_goals (try (exfalso; have hx_ := c47b0; simp [c17b0, c31b0, c32b0, c46b0] at hx_; first | done | exact absurd hx_ (by assumption) | exact absurd (by assumption) hx_))
         all_goals (try (exfalso; have hx_ := c47b2; simp [c17b0, c31b0, c32b0, c46b0] at hx_; first | done | exact absurd hx_ (by assumption) | exact absurd (by assumption) hx_))
         go_ret
         exact ⟨by first | rfl | (simp [errW_none, errW_some] <;> rfl) | (simp [*, errW_none, errW_some] <;> rfl), by repeat (first | (with_reducible first | exact HB.out | apply below_alloc | apply pw_below_drewN | apply below_drew1 | refine below_set ?_ GE131.out | refine below_set ?_ GE136.out) | exact HB.out)⟩
       ·rw [if_neg c46] at H
        have c46b0 : (t128 == t133) = false := beq_eq_false_iff_ne.mpr c46
        have c46b1 : (t128 != t133) = true := bne_iff_ne.mpr c46
        by_cases c60 : (false == (decide (a0 < a1))) = true
        ·rw [if_pos c60] at H
         have c60b0 : (false == (decide (a0 < a1))) = true := c60
         (try (have c60b1 : decide (false = (decide (a0 < a1))) = true := by simpa using c60))
         (try (have c60b2 : (false == (decide (a0 < a1))) = true := by simpa using c60))
         clear c60
         by_cases c61 : ((t127 == t132 && (t128 == t133 && (t129 == t134))) == (a0 == a1)) = true
         ·rw [if_pos c61] at H
          have c61b0 : ((t127 == t132 && (t128 == t133 && (t129 == t134))) == (a0 == a1)) = true := c61
          (try (have c61b1 : decide ((t127 == t132 && (t128 == t133 && (t129 == t134))) = (a0 == a1)) = true := by simpa using c61))
          (try (have c61b2 : ((t127 == t132 && (t128 == t133 && (t129 == t134))) == (a0 == a1)) = true := by simpa using c61))
          clear c61
          replace H := Option.bind_eq_some_iff.mp H
          obtain ⟨t141, A620, H⟩ := H
          replace H : (some t141) = some r := H
          have A62 := Aside0.mk A620
          clear A620
          obtain rfl := Option.some.inj H
          have hnb63 := NB131_136.out
          have hnc63 := NB136_131.out
          have hcz64_0 : wc.cell? ⟨gb131, 0, none⟩ = some (.int .i64 t127) := (blk_cell BK131.out 0).trans rfl
          have hcz64_1 : wc.cell? ⟨gb131, 1, none⟩ = some (.int .i64 t128) := (blk_cell BK131.out 1).trans rfl
          have hcz64_2 : wc.cell? ⟨gb131, 2, none⟩ = some (.int .i64 t129) := (blk_cell BK131.out 2).trans rfl
          have hfz64_0 := blk_frozen BK131.out 0
          have hfz64_1 := blk_frozen BK131.out 1
          have hfz64_2 := blk_frozen BK131.out 2
          have hcz65_0 : wc.cell? ⟨gb136, 0, none⟩ = some (.int .i64 t132) := (blk_cell BK136.out 0).trans rfl
          have hcz65_1 : wc.cell? ⟨gb136, 1, none⟩ = some (.int .i64 t133) := (blk_cell BK136.out 1).trans rfl
          have hcz65_2 : wc.cell? ⟨gb136, 2, none⟩ = some (.int .i64 t134) := (blk_cell BK136.out 2).trans rfl
          have hfz65_0 := blk_frozen BK136.out 0
          have hfz65_1 := blk_frozen BK136.out 1
          have hfz65_2 := blk_frozen BK136.out 2
          go_wp2_with (first | (go_at_call 14; (with_reducible refine (hinterlandlaw01_known.calls kj4  t141 _ A62.out).mono ?_); rintro e w66 ⟨rfl, hb⟩; have n0_ := Aside0.mk (blk_below (g := gb131) (o := .cells #[.int .i64 t127, .int .i64 t128, .int .i64 t129] 23 (0, 0)) (by (with_reducible repeat (first | refine blk_drewN ?_ _ | refine blk_drew ?_ | refine blk_alloc ?_ _)); exact BK131.out) hb); have n1_ := Aside0.mk (blk_below (g := gb136) (o := .cells #[.int .i64 t132, .int .i64 t133, .int .i64 t134] 23 (0, 0)) (by (with_reducible repeat (first | refine blk_drewN ?_ _ | refine blk_drew ?_ | refine blk_alloc ?_ _)); exact BK136.out) hb); have n2_ := Aside0.mk (below_step (by repeat (first | (with_reducible first | exact HB.out | apply below_alloc | apply pw_below_drewN | apply below_drew1 | refine below_set ?_ GE131.out | refine below_set ?_ GE136.out) | exact HB.out)) hb); clear BK131; clear BK136; clear HB; have BK131 := n0_; have BK136 := n1_; have HB := n2_; clear n0_ n1_ n2_; (try clear hb); (try clear hb2); (try clear hk); (try clear hi)))
          all_goals (try (exfalso; simp_all; done))
          all_goals (try (exfalso; have hx_ := c60b0; simp [c17b0, c31b0, c32b0, c46b0, c61b0] at hx_; first | done | exact absurd hx_ (by assumption) | exact absurd (by assumption) hx_))
          all_goals (try (exfalso; have hx_ := c60b2; simp [c17b0, c31b0, c32b0, c46b0, c61b0] at hx_; first | done | exact absurd hx_ (by assumption) | exact absurd (by assumption) hx_))
          all_goals (try (exfalso; have hx_ := c61b0; simp [c17b0, c31b0, c32b0, c46b0, c60b0] at hx_; first | done | exact absurd hx_ (by assumption) | exact absurd (by assumption) hx_))
          all_goals (try (exfalso; have hx_ := c61b2; simp [c17b0, c31b0, c32b0, c46b0, c60b0] at hx_; first | done | exact absurd hx_ (by assumption) | exact absurd (by assumption) hx_))
          go_ret
          exact ⟨by first | rfl | (simp [errW_none, errW_some] <;> rfl) | (simp [*, errW_none, errW_some] <;> rfl), by repeat (first | (with_reducible first | exact HB.out | apply below_alloc | apply pw_below_drewN | apply below_drew1 | refine below_set ?_ GE131.out | refine below_set ?_ GE136.out) | exact HB.out)⟩
         ·rw [if_neg c61] at H
          have c61b0 : ((t127 == t132 && (t128 == t133 && (t129 == t134))) == (a0 == a1)) = false := by simpa using c61
          (try (have c61b1 : decide ((t127 == t132 && (t128 == t133 && (t129 == t134))) = (a0 == a1)) = false := by simpa using c61))
          (try (have c61b2 : ((t127 == t132 && (t128 == t133 && (t129 == t134))) == (a0 == a1)) = false := by simpa using c61))
          (try (have c61b3 : ¬ ((t127 == t132 && (t128 == t133 && (t129 == t134))) = (a0 == a1)) := by simpa using c61))
          clear c61
          obtain rfl := Option.some.inj H
          have hnb67 := NB131_136.out
          have hnc67 := NB136_131.out
          have hcz68_0 : wc.cell? ⟨gb131, 0, none⟩ = some (.int .i64 t127) := (blk_cell BK131.out 0).trans rfl
          have hcz68_1 : wc.cell? ⟨gb131, 1, none⟩ = some (.int .i64 t128) := (blk_cell BK131.out 1).trans rfl
          have hcz68_2 : wc.cell? ⟨gb131, 2, none⟩ = some (.int .i64 t129) := (blk_cell BK131.out 2).trans rfl
          have hfz68_0 := blk_frozen BK131.out 0
          have hfz68_1 := blk_frozen BK131.out 1
          have hfz68_2 := blk_frozen BK131.out 2
          have hcz69_0 : wc.cell? ⟨gb136, 0, none⟩ = some (.int .i64 t132) := (blk_cell BK136.out 0).trans rfl
          have hcz69_1 : wc.cell? ⟨gb136, 1, none⟩ = some (.int .i64 t133) := (blk_cell BK136.out 1).trans rfl
          have hcz69_2 : wc.cell? ⟨gb136, 2, none⟩ = some (.int .i64 t134) := (blk_cell BK136.out 2).trans rfl
          have hfz69_0 := blk_frozen BK136.out 0
          have hfz69_1 := blk_frozen BK136.out 1
          have hfz69_2 := blk_frozen BK136.out 2
          go_wp2
          all_goals (try (exfalso; simp_all; done))
          all_goals (try (exfalso; have hx_ := c60b0; simp [c17b0, c31b0, c32b0, c46b0, c61b0] at hx_; first | done | exact absurd hx_ (by assumption) | exact absurd (by assumption) hx_))
          all_goals (try (exfalso; have hx_ := c60b2; simp [c17b0, c31b0, c32b0, c46b0, c61b0] at hx_; first | done | exact absurd hx_ (by assumption) | exact absurd (by assumption) hx_))
          all_goals (try (exfalso; have hx_ := c61b0; simp [c17b0, c31b0, c32b0, c46b0, c60b0] at hx_; first | done | exact absurd hx_ (by assumption) | exact absurd (by assumption) hx_))
          all_goals (try (exfalso; have hx_ := c61b2; simp [c17b0, c31b0, c32b0, c46b0, c60b0] at hx_; first | done | exact absurd hx_ (by assumption) | exact absurd (by assumption) hx_))
          go_ret
          exact ⟨by first | rfl | (simp [errW_none, errW_some] <;> rfl) | (simp [*, errW_none, errW_some] <;> rfl), by repeat (first | (with_reducible first | exact HB.out | apply below_alloc | apply pw_below_drewN | apply below_drew1 | refine below_set ?_ GE131.out | refine below_set ?_ GE136.out) | exact HB.out)⟩
        ·rw [if_neg c60] at H
         have c60b0 : (false == (decide (a0 < a1))) = false := by simpa using c60
         (try (have c60b1 : decide (false = (decide (a0 < a1))) = false := by simpa using c60))
         (try (have c60b2 : (false == (decide (a0 < a1))) = false := by simpa using c60))
         (try (have c60b3 : ¬ (false = (decide (a0 < a1))) := by simpa using c60))
         clear c60
         obtain rfl := Option.some.inj H
         have hnb70 := NB131_136.out
         have hnc70 := NB136_131.out
         have hcz71_0 : wc.cell? ⟨gb131, 0, none⟩ = some (.int .i64 t127) := (blk_cell BK131.out 0).trans rfl
         have hcz71_1 : wc.cell? ⟨gb131, 1, none⟩ = some (.int .i64 t128) := (blk_cell BK131.out 1).trans rfl
         have hcz71_2 : wc.cell? ⟨gb131, 2, none⟩ = some (.int .i64 t129) := (blk_cell BK131.out 2).trans rfl
         have hfz71_0 := blk_frozen BK131.out 0
         have hfz71_1 := blk_frozen BK131.out 1
         have hfz71_2 := blk_frozen BK131.out 2
         have hcz72_0 : wc.cell? ⟨gb136, 0, none⟩ = some (.int .i64 t132) := (blk_cell BK136.out 0).trans rfl
         have hcz72_1 : wc.cell? ⟨gb136, 1, none⟩ = some (.int .i64 t133) := (blk_cell BK136.out 1).trans rfl
         have hcz72_2 : wc.cell? ⟨gb136, 2, none⟩ = some (.int .i64 t134) := (blk_cell BK136.out 2).trans rfl
         have hfz72_0 := blk_frozen BK136.out 0
         have hfz72_1 := blk_frozen BK136.out 1
         have hfz72_2 := blk_frozen BK136.out 2
         go_wp2
         all_goals (try (exfalso; simp_all; done))
         all_goals (try (exfalso; have hx_ := c60b0; simp [c17b0, c31b0, c32b0, c46b0] at hx_; first | done | exact absurd hx_ (by assumption) | exact absurd (by assumption) hx_))
         all_goals (try (exfalso; have hx_ := c60b2; simp [c17b0, c31b0, c32b0, c46b0] at hx_; first | done | exact absurd hx_ (by assumption) | exact absurd (by assumption) hx_))
         go_ret
         exact ⟨by first | rfl | (simp [errW_none, errW_some] <;> rfl) | (simp [*, errW_none, errW_some] <;> rfl), by repeat (first | (with_reducible first | exact HB.out | apply below_alloc | apply pw_below_drewN | apply below_drew1 | refine below_set ?_ GE131.out | refine below_set ?_ GE136.out) | exact HB.out)⟩
     ·rw [if_neg c31] at H
      have c31b0 : (t127 == t132) = false := beq_eq_false_iff_ne.mpr c31
      have c31b1 : (t127 != t132) = true := bne_iff_ne.mpr c31
      by_cases c73 : (false == (decide (a0 < a1))) = true
      ·rw [if_pos c73] at H
       have c73b0 : (false == (decide (a0 < a1))) = true := c73
       (try (have c73b1 : decide (false = (decide (a0 < a1))) = true := by simpa using c73))
       (try (have c73b2 : (false == (decide (a0 < a1))) = true := by simpa using c73))
       clear c73
       by_cases c74 : ((t127 == t132 && (t128 == t133 && (t129 == t134))) == (a0 == a1)) = true
       ·rw [if_pos c74] at H
        have c74b0 : ((t127 == t132 && (t128 == t133 && (t129 == t134))) == (a0 == a1)) = true := c74
        (try (have c74b1 : decide ((t127 == t132 && (t128 == t133 && (t129 == t134))) = (a0 == a1)) = true := by simpa using c74))
        (try (have c74b2 : ((t127 == t132 && (t128 == t133 && (t129 == t134))) == (a0 == a1)) = true := by simpa using c74))
        clear c74
        replace H := Option.bind_eq_some_iff.mp H
        obtain ⟨t142, A750, H⟩ := H
        replace H : (some t142) = some r := H
        have A75 := Aside0.mk A750
        clear A750
        obtain rfl := Option.some.inj H
        have hnb76 := NB131_136.out
        have hnc76 := NB136_131.out
        have hcz77_0 : wc.cell? ⟨gb131, 0, none⟩ = some (.int .i64 t127) := (blk_cell BK131.out 0).trans rfl
        have hcz77_1 : wc.cell? ⟨gb131, 1, none⟩ = some (.int .i64 t128) := (blk_cell BK131.out 1).trans rfl
        have hcz77_2 : wc.cell? ⟨gb131, 2, none⟩ = some (.int .i64 t129) := (blk_cell BK131.out 2).trans rfl
        have hfz77_0 := blk_frozen BK131.out 0
        have hfz77_1 := blk_frozen BK131.out 1
        have hfz77_2 := blk_frozen BK131.out 2
        have hcz78_0 : wc.cell? ⟨gb136, 0, none⟩ = some (.int .i64 t132) := (blk_cell BK136.out 0).trans rfl
        have hcz78_1 : wc.cell? ⟨gb136, 1, none⟩ = some (.int .i64 t133) := (blk_cell BK136.out 1).trans rfl
        have hcz78_2 : wc.cell? ⟨gb136, 2, none⟩ = some (.int .i64 t134) := (blk_cell BK136.out 2).trans rfl
        have hfz78_0 := blk_frozen BK136.out 0
        have hfz78_1 := blk_frozen BK136.out 1
        have hfz78_2 := blk_frozen BK136.out 2
        go_wp2_with (first | (go_at_call 14; (with_reducible refine (hinterlandlaw01_known.calls kj4  t142 _ A75.out).mono ?_); rintro e w79 ⟨rfl, hb⟩; have n0_ := Aside0.mk (blk_below (g := gb131) (o := .cells #[.int .i64 t127, .int .i64 t128, .int .i64 t129] 23 (0, 0)) (by (with_reducible repeat (first | refine blk_drewN ?_ _ | refine blk_drew ?_ | refine blk_alloc ?_ _)); exact BK131.out) hb); have n1_ := Aside0.mk (blk_below (g := gb136) (o := .cells #[.int .i64 t132, .int .i64 t133, .int .i64 t134] 23 (0, 0)) (by (with_reducible repeat (first | refine blk_drewN ?_ _ | refine blk_drew ?_ | refine blk_alloc ?_ _)); exact BK136.out) hb); have n2_ := Aside0.mk (below_step (by repeat (first | (with_reducible first | exact HB.out | apply below_alloc | apply pw_below_drewN | apply below_drew1 | refine below_set ?_ GE131.out | refine below_set ?_ GE136.out) | exact HB.out)) hb); clear BK131; clear BK136; clear HB; have BK131 := n0_; have BK136 := n1_; have HB := n2_; clear n0_ n1_ n2_; (try clear hb); (try clear hb2); (try clear hk); (try clear hi)))
        all_goals (try (exfalso; simp_all; done))
        all_goals (try (exfalso; have hx_ := c73b0; simp [c17b0, c31b0, c74b0] at hx_; first | done | exact absurd hx_ (by assumption) | exact absurd (by assumption) hx_))
        all_goals (try (exfalso; have hx_ := c73b2; simp [c17b0, c31b0, c74b0] at hx_; first | done | exact absurd hx_ (by assumption) | exact absurd (by assumption) hx_))
        all_goals (try (exfalso; have hx_ := c74b0; simp [c17b0, c31b0, c73b0] at hx_; first | done | exact absurd hx_ (by assumption) | exact absurd (by assumption) hx_))
        all_goals (try (exfalso; have hx_ := c74b2; simp [c17b0, c31b0, c73b0] at hx_; first | done | exact absurd hx_ (by assumption) | exact absurd (by assumption) hx_))
        go_ret
        exact ⟨by first | rfl | (simp [errW_none, errW_some] <;> rfl) | (simp [*, errW_none, errW_some] <;> rfl), by repeat (first | (with_reducible first | exact HB.out | apply below_alloc | apply pw_below_drewN | apply below_drew1 | refine below_set ?_ GE131.out | refine below_set ?_ GE136.out) | exact HB.out)⟩
       ·rw [if_neg c74] at H
        have c74b0 : ((t127 == t132 && (t128 == t133 && (t129 == t134))) == (a0 == a1)) = false := by simpa using c74
        (try (have c74b1 : decide ((t127 == t132 && (t128 == t133 && (t129 == t134))) = (a0 == a1)) = false := by simpa using c74))
        (try (have c74b2 : ((t127 == t132 && (t128 == t133 && (t129 == t134))) == (a0 == a1)) = false := by simpa using c74))
        (try (have c74b3 : ¬ ((t127 == t132 && (t128 == t133 && (t129 == t134))) = (a0 == a1)) := by simpa using c74))
        clear c74
        obtain rfl := Option.some.inj H
        have hnb80 := NB131_136.out
        have hnc80 := NB136_131.out
        have hcz81_0 : wc.cell? ⟨gb131, 0, none⟩ = some (.int .i64 t127) := (blk_cell BK131.out 0).trans rfl
        have hcz81_1 : wc.cell? ⟨gb131, 1, none⟩ = some (.int .i64 t128) := (blk_cell BK131.out 1).trans rfl
        have hcz81_2 : wc.cell? ⟨gb131, 2, none⟩ = some (.int .i64 t129) := (blk_cell BK131.out 2).trans rfl
        have hfz81_0 := blk_frozen BK131.out 0
        have hfz81_1 := blk_frozen BK131.out 1
        have hfz81_2 := blk_frozen BK131.out 2
        have hcz82_0 : wc.cell? ⟨gb136, 0, none⟩ = some (.int .i64 t132) := (blk_cell BK136.out 0).trans rfl
        have hcz82_1 : wc.cell? ⟨gb136, 1, none⟩ = some (.int .i64 t133) := (blk_cell BK136.out 1).trans rfl
        have hcz82_2 : wc.cell? ⟨gb136, 2, none⟩ = some (.int .i64 t134) := (blk_cell BK136.out 2).trans rfl
        have hfz82_0 := blk_frozen BK136.out 0
        have hfz82_1 := blk_frozen BK136.out 1
        have hfz82_2 := blk_frozen BK136.out 2
        go_wp2
        all_goals (try (exfalso; simp_all; done))
        all_goals (try (exfalso; have hx_ := c73b0; simp [c17b0, c31b0, c74b0] at hx_; first | done | exact absurd hx_ (by assumption) | exact absurd (by assumption) hx_))
        all_goals (try (exfalso; have hx_ := c73b2; simp [c17b0, c31b0, c74b0] at hx_; first | done | exact absurd hx_ (by assumption) | exact absurd (by assumption) hx_))
        all_goals (try (exfalso; have hx_ := c74b0; simp [c17b0, c31b0, c73b0] at hx_; first | done | exact absurd hx_ (by assumption) | exact absurd (by assumption) hx_))
        all_goals (try (exfalso; have hx_ := c74b2; simp [c17b0, c31b0, c73b0] at hx_; first | done | exact absurd hx_ (by assumption) | exact absurd (by assumption) hx_))
        go_ret
        exact ⟨by first | rfl | (simp [errW_none, errW_some] <;> rfl) | (simp [*, errW_none, errW_some] <;> rfl), by repeat (first | (with_reducible first | exact HB.out | apply below_alloc | apply pw_below_drewN | apply below_drew1 | refine below_set ?_ GE131.out | refine below_set ?_ GE136.out) | exact HB.out)⟩
      ·rw [if_neg c73] at H
       have c73b0 : (false == (decide (a0 < a1))) = false := by simpa using c73
       (try (have c73b1 : decide (false = (decide (a0 < a1))) = false := by simpa using c73))
       (try (have c73b2 : (false == (decide (a0 < a1))) = false := by simpa using c73))
       (try (have c73b3 : ¬ (false = (decide (a0 < a1))) := by simpa using c73))
       clear c73
       obtain rfl := Option.some.inj H
       have hnb83 := NB131_136.out
       have hnc83 := NB136_131.out
       have hcz84_0 : wc.cell? ⟨gb131, 0, none⟩ = some (.int .i64 t127) := (blk_cell BK131.out 0).trans rfl
       have hcz84_1 : wc.cell? ⟨gb131, 1, none⟩ = some (.int .i64 t128) := (blk_cell BK131.out 1).trans rfl
       have hcz84_2 : wc.cell? ⟨gb131, 2, none⟩ = some (.int .i64 t129) := (blk_cell BK131.out 2).trans rfl
       have hfz84_0 := blk_frozen BK131.out 0
       have hfz84_1 := blk_frozen BK131.out 1
       have hfz84_2 := blk_frozen BK131.out 2
       have hcz85_0 : wc.cell? ⟨gb136, 0, none⟩ = some (.int .i64 t132) := (blk_cell BK136.out 0).trans rfl
       have hcz85_1 : wc.cell? ⟨gb136, 1, none⟩ = some (.int .i64 t133) := (blk_cell BK136.out 1).trans rfl
       have hcz85_2 : wc.cell? ⟨gb136, 2, none⟩ = some (.int .i64 t134) := (blk_cell BK136.out 2).trans rfl
       have hfz85_0 := blk_frozen BK136.out 0
       have hfz85_1 := blk_frozen BK136.out 1
       have hfz85_2 := blk_frozen BK136.out 2
       go_wp2
       all_goals (try (exfalso; simp_all; done))
       all_goals (try (exfalso; have hx_ := c73b0; simp [c17b0, c31b0] at hx_; first | done | exact absurd hx_ (by assumption) | exact absurd (by assumption) hx_))
       all_goals (try (exfalso; have hx_ := c73b2; simp [c17b0, c31b0] at hx_; first | done | exact absurd hx_ (by assumption) | exact absurd (by assumption) hx_))
       go_ret
       exact ⟨by first | rfl | (simp [errW_none, errW_some] <;> rfl) | (simp [*, errW_none, errW_some] <;> rfl), by repeat (first | (with_reducible first | exact HB.out | apply below_alloc | apply pw_below_drewN | apply below_drew1 | refine below_set ?_ GE131.out | refine below_set ?_ GE136.out) | exact HB.out)⟩

/-- THE ONE PURE STATEMENT of hinterlandlaw01_RollOrder. -/
def hinterlandlaw01_RollOrder.Pure : Prop := ∀ (a0 : Int) (a1 : Int), (wInt .i64) a0 → (wInt .i64) a1 → ∃ k, hinterlandlaw01_RollOrder.f k a0 a1 = some true

end Go.Proofs.Ytmgccgiomnkbmaa.Q
