-- PRINTED by print.py (a twelfth state) out of the translation. Not trusted: Lean checks it.
import Derived.Test.YtchflcnegpnkkaaQ0
import Derived.Test.YtchflcnegpnkkaaQ14
namespace Go.Proofs.Ytchflcnegpnkkaa.Q
open Go.RowKit Go.Proofs.YtchflcnegpnkkaaOwn Go.Proofs.YtchflcnegpnkkaaW.PrintWords Go.Proofs.YtchflcnegpnkkaaW.PrintLast Go.Proofs.YtchflcnegpnkkaaW.PrintMore
attribute [local go_sem] max2_int min2_int max_two min_two max_three min_three max_four min_four   -- for this text's walks alone
set_option linter.unusedVariables false
set_option linter.unusedSimpArgs false

/-! ### hinterlandref02_Face: function 51 -/
mutual
def hinterlandref02_Face.l0 : Nat → Int → Int → Int → Int → Int → List Int → Int → Int → Int → Int → Int → Int → Int → Int → Option (Int × Int)
  | 0, _, _, _, _, _, _, _, _, _, _, _, _, _, _ => none
  | k + 1, x7, x8, x31, x411000, x411001, x411002, x416000, x416001, x416002, x416003, x100030000, x100030001, x100030002, x100030003 => if x31 < 4 then (if 0 ≤ x31 then (if 0 ≤ (rd [x100030000, x100030001, x100030002, x100030003] x31) then (if (rd [x100030000, x100030001, x100030002, x100030003] x31) < (x411002.length : Int) then (hinterlandref02_Face.l0 k (mn x7 (rd x411002 (rd [x100030000, x100030001, x100030002, x100030003] x31))) (mx x8 (rd x411002 (rd [x100030000, x100030001, x100030002, x100030003] x31))) (wrap64 (x31 + 1)) x411000 x411001 x411002 x416000 x416001 x416002 x416003 x100030000 x100030001 x100030002 x100030003) else (none)) else (none)) else (none)) else (hinterlandref02_Face.l1 k x7 x8 0 1 0 x411000 x411001 x411002 x416000 x416001 x416002 x416003)
def hinterlandref02_Face.l1 : Nat → Int → Int → Int → Int → Int → Int → Int → List Int → Int → Int → Int → Int → Option (Int × Int)
  | 0, _, _, _, _, _, _, _, _, _, _, _, _ => none
  | k + 1, x7, x8, x11, x12, x50, x411000, x411001, x411002, x100049000, x100049001, x100049002, x100049003 => if x50 < 4 then (if 0 ≤ x50 then (if 0 ≤ (rd [x100049000, x100049001, x100049002, x100049003] x50) then (if (rd [x100049000, x100049001, x100049002, x100049003] x50) < (x411002.length : Int) then (if (rd x411002 (rd [x100049000, x100049001, x100049002, x100049003] x50)) > x7 then (hinterlandref02_Face.l1 k x7 x8 (wrap64 (x11 + x12)) (wrap64 (x12 * 2)) (wrap64 (x50 + 1)) x411000 x411001 x411002 x100049000 x100049001 x100049002 x100049003) else (hinterlandref02_Face.l1 k x7 x8 x11 (wrap64 (x12 * 2)) (wrap64 (x50 + 1)) x411000 x411001 x411002 x100049000 x100049001 x100049002 x100049003)) else (none)) else (none)) else (none)) else (if (wrap64 (x8 - x7)) = 2 then (some (wrap64 (x11 + 16), x7)) else (some (x11, x7)))
end
def hinterlandref02_Face.f (k : Nat) (a0_0 : Int) (a0_1 : Int) (l0_2 : List Int) (a1 : Int) : Option (Int × Int) := (hinterlandref02_Places.f a0_0 a0_1 l0_2 a1).bind fun bt411 => (if 0 ≤ bt411.1 then (if bt411.1 < (l0_2.length : Int) then (hinterlandref02_Face.l0 k (rd l0_2 bt411.1) (rd l0_2 bt411.1) 0 a0_0 a0_1 l0_2 bt411.1 bt411.2.1 bt411.2.2.1 bt411.2.2.2 bt411.1 bt411.2.1 bt411.2.2.1 bt411.2.2.2) else (none)) else (none))
theorem hinterlandref02_Face.mono_l : ∀ k, (∀ y0 y1 y2 y3 y4 y5 y6 y7 y8 y9 y10 y11 y12 y13, LeO (hinterlandref02_Face.l0 k y0 y1 y2 y3 y4 y5 y6 y7 y8 y9 y10 y11 y12 y13) (hinterlandref02_Face.l0 (k + 1) y0 y1 y2 y3 y4 y5 y6 y7 y8 y9 y10 y11 y12 y13)) ∧ (∀ y0 y1 y2 y3 y4 y5 y6 y7 y8 y9 y10 y11, LeO (hinterlandref02_Face.l1 k y0 y1 y2 y3 y4 y5 y6 y7 y8 y9 y10 y11) (hinterlandref02_Face.l1 (k + 1) y0 y1 y2 y3 y4 y5 y6 y7 y8 y9 y10 y11))
  | 0 => ⟨fun _ _ _ _ _ _ _ _ _ _ _ _ _ _ r h => by simp [hinterlandref02_Face.l0] at h, fun _ _ _ _ _ _ _ _ _ _ _ _ r h => by simp [hinterlandref02_Face.l1] at h⟩
  | k + 1 => by
    obtain ⟨ih0, ih1⟩ := hinterlandref02_Face.mono_l k
    refine ⟨?_, ?_⟩
    · intro y0 y1 y2 y3 y4 y5 y6 y7 y8 y9 y10 y11 y12 y13
      unfold hinterlandref02_Face.l0
      repeat' first
      | (with_reducible exact ih0 _ _ _ _ _ _ _ _ _ _ _ _ _ _)
      | (with_reducible exact ih1 _ _ _ _ _ _ _ _ _ _ _ _)
      | (with_reducible exact LeO.refl _)
      | (with_reducible exact LeO.none _)
      | (with_reducible refine LeO.ite ?_ ?_)
      | (with_reducible refine LeO.bind ?_ (fun _ => ?_))
      | exact ih0 _ _ _ _ _ _ _ _ _ _ _ _ _ _
      | exact ih1 _ _ _ _ _ _ _ _ _ _ _ _
      | exact LeO.none _
      | refine LeO.ite ?_ ?_
      | refine LeO.bind ?_ (fun _ => ?_)
    · intro y0 y1 y2 y3 y4 y5 y6 y7 y8 y9 y10 y11
      unfold hinterlandref02_Face.l1
      repeat' first
      | (with_reducible exact ih0 _ _ _ _ _ _ _ _ _ _ _ _ _ _)
      | (with_reducible exact ih1 _ _ _ _ _ _ _ _ _ _ _ _)
      | (with_reducible exact LeO.refl _)
      | (with_reducible exact LeO.none _)
      | (with_reducible refine LeO.ite ?_ ?_)
      | (with_reducible refine LeO.bind ?_ (fun _ => ?_))
      | exact ih0 _ _ _ _ _ _ _ _ _ _ _ _ _ _
      | exact ih1 _ _ _ _ _ _ _ _ _ _ _ _
      | exact LeO.none _
      | refine LeO.ite ?_ ?_
      | refine LeO.bind ?_ (fun _ => ?_)
theorem hinterlandref02_Face.mono : ∀ a0 a1 a2 a3 k, LeO (hinterlandref02_Face.f k a0 a1 a2 a3) (hinterlandref02_Face.f (k + 1) a0 a1 a2 a3) := by
  intro a0 a1 a2 a3 k
  obtain ⟨ih0, ih1⟩ := hinterlandref02_Face.mono_l k
  unfold hinterlandref02_Face.f
  repeat' first
      | (with_reducible exact ih0 _ _ _ _ _ _ _ _ _ _ _ _ _ _)
      | (with_reducible exact ih1 _ _ _ _ _ _ _ _ _ _ _ _)
      | (with_reducible exact LeO.refl _)
      | (with_reducible exact LeO.none _)
      | (with_reducible refine LeO.ite ?_ ?_)
      | (with_reducible refine LeO.bind ?_ (fun _ => ?_))
      | exact ih0 _ _ _ _ _ _ _ _ _ _ _ _ _ _
      | exact ih1 _ _ _ _ _ _ _ _ _ _ _ _
      | exact LeO.none _
      | refine LeO.ite ?_ ?_
      | refine LeO.bind ?_ (fun _ => ?_)
set_option maxHeartbeats 8000000 in
set_option maxRecDepth 100000 in
theorem hinterlandref02_Face.calls (k : Nat) (a0_0 : Int) (a0_1 : Int) (A0_2 : Option Addr) (c0_2 : Nat) (l0_2 : List Int) (a1 : Int) (r1 : Int) (r2 : Int) (w : World) (hr0_2 : Kd.C (Kd.int .i64) w A0_2 l0_2.length l0_2) (hc0_2 : l0_2.length ≤ c0_2) (h : hinterlandref02_Face.f k a0_0 a0_1 l0_2 a1 = some (r1, r2)) :
    Calls Try.prog 51 #[.agg #[.int .i64 a0_0, .int .i64 a0_1, .slice A0_2 l0_2.length c0_2], .int .i64 a1] w fun e w' => e = .returned (.tuple #[.int .i64 r1, .int .i64 r2]) ∧ Below w.heap.size w w' := by
 have hu24 := Try.underlying24
 have hu66 := Try.underlying66
 have HR0_2 := Aside0.mk hr0_2
 have HC0_2 := Aside0.mk hc0_2
 clear hr0_2 hc0_2
 have HB := Aside0.mk (Below.refl w.heap.size w)
 have H : ((hinterlandref02_Places.f a0_0 a0_1 l0_2 a1).bind fun bt411 => (if 0 ≤ bt411.1 then (if bt411.1 < (l0_2.length : Int) then (hinterlandref02_Face.l0 k (rd l0_2 bt411.1) (rd l0_2 bt411.1) 0 a0_0 a0_1 l0_2 bt411.1 bt411.2.1 bt411.2.2.1 bt411.2.2.2 bt411.1 bt411.2.1 bt411.2.2.1 bt411.2.2.2) else (none)) else (none))) = some (r1, r2) := h
 clear h
 replace H := Option.bind_eq_some_iff.mp H
 obtain ⟨⟨t411, t412, t413, t414⟩, A30, H⟩ := H
 replace H : (if 0 ≤ t411 then (if t411 < (l0_2.length : Int) then (hinterlandref02_Face.l0 k (rd l0_2 t411) (rd l0_2 t411) 0 a0_0 a0_1 l0_2 t411 t412 t413 t414 t411 t412 t413 t414) else (none)) else (none)) = some (r1, r2) := H
 have A3 := Aside0.mk A30
 clear A30
 by_cases c4 : 0 ≤ t411
 ·rw [if_pos c4] at H
  have c4b0 : decide (0 ≤ t411) = true := decide_eq_true c4
  clear c4
  by_cases c5 : t411 < (l0_2.length : Int)
  ·rw [if_pos c5] at H
   have c5b0 : decide (t411 < (l0_2.length : Int)) = true := decide_eq_true c5
   clear c5
   have H' := Aside0.mk H
   clear H
   go_enter Try.func51, Try.ntmps51
   go_wp2_with (first | ((with_reducible refine gate_dst (N := 2) rfl ?_); refine box_event ?hg (N := 2) ?hd (cs := #[.int .i64 a0_0, .int .i64 a0_1, .slice A0_2 l0_2.length c0_2]) (t := 24) ?hr ?_; (case hd => rfl); (case hg => rfl); (case hr => first | (go_simp; done) | (go_simp; rfl)); intro gb410 hg w6 hbox hb; have n0_ := Aside0.mk (below_step (by repeat (first | (with_reducible first | exact HB.out | apply below_alloc | apply pw_below_drewN | apply below_drew1) | exact HB.out)) hb); have n1_ := Aside0.mk (hbox); have n2_ := Aside0.mk ((by rw [hg]; exact (below_size (by repeat (first | (with_reducible first | exact HB.out | apply below_alloc | apply pw_below_drewN | apply below_drew1) | exact HB.out))) : w.heap.size ≤ gb410)); have n3_ := Aside0.mk ((by rw [hg]; exact (below_size (by repeat (first | (with_reducible first | exact HB.out | apply below_alloc | apply pw_below_drewN | apply below_drew1) | exact HB.out))) : w.heap.size ≤ gb410)); clear HB; have HB := n0_; have BK410 := n1_; have GW410 := n2_; have GE410 := n3_; clear n0_ n1_ n2_ n3_; clear hb hbox hg; have hcz7_0 : w6.cell? ⟨gb410, 0, none⟩ = some (.int .i64 a0_0) := (blk_cell BK410.out 0).trans rfl; have hcz7_1 : w6.cell? ⟨gb410, 1, none⟩ = some (.int .i64 a0_1) := (blk_cell BK410.out 1).trans rfl; have hcz7_2 : w6.cell? ⟨gb410, 2, none⟩ = some (.slice A0_2 l0_2.length c0_2) := (blk_cell BK410.out 2).trans rfl; have hfz7_0 := blk_frozen BK410.out 0; have hfz7_1 := blk_frozen BK410.out 1; have hfz7_2 := blk_frozen BK410.out 2) | (go_at_call 49; (with_reducible refine (hinterlandref02_Places.calls a0_0 a0_1 _ _ l0_2 a1 t411 t412 t413 t414 _ ?side1 ?side2 A3.out).mono ?_); (case side1 => repeat (first | exact (Kd.C_below HR0_2.out HB.out) | (with_reducible refine Kd.C_alloc ?_ _) | (with_reducible refine Kd.C_drewN ?_ _) | (with_reducible refine Kd.C_drew ?_))); (case side2 => exact HC0_2.out); rintro e w8 ⟨rfl, hb⟩; have n0_ := Aside0.mk (blk_below (g := gb410) (o := .cells #[.int .i64 a0_0, .int .i64 a0_1, .slice A0_2 l0_2.length c0_2] 24 (0, 0)) (by (with_reducible repeat (first | refine blk_drewN ?_ _ | refine blk_drew ?_ | refine blk_alloc ?_ _)); exact BK410.out) hb); have n1_ := Aside0.mk (below_step (by repeat (first | (with_reducible first | exact HB.out | apply below_alloc | apply pw_below_drewN | apply below_drew1 | refine below_set ?_ GE410.out) | exact HB.out)) hb); clear BK410; clear HB; have BK410 := n0_; have HB := n1_; clear n0_ n1_; (try clear hb); (try clear hb2); (try clear hk); (try clear hi)) | ((with_reducible refine gate_dst (N := 6) rfl ?_); refine box_event ?hg (N := 6) ?hd (cs := #[.int .i64 0, .int .i64 0, .int .i64 0, .int .i64 0]) (t := 66) ?hr ?_; (case hd => rfl); (case hg => rfl); (case hr => first | (go_simp; done) | (go_simp; rfl)); intro gb415 hg w9 hbox hb; have n0_ := Aside0.mk (blk_below (g := gb410) (o := .cells #[.int .i64 a0_0, .int .i64 a0_1, .slice A0_2 l0_2.length c0_2] 24 (0, 0)) (by (with_reducible repeat (first | refine blk_drewN ?_ _ | refine blk_drew ?_ | refine blk_alloc ?_ _)); exact BK410.out) hb); have n1_ := Aside0.mk (below_step (by repeat (first | (with_reducible first | exact HB.out | apply below_alloc | apply pw_below_drewN | apply below_drew1 | refine below_set ?_ GE410.out) | exact HB.out)) hb); have n2_ := Aside0.mk (hbox); have n3_ := Aside0.mk ((by rw [hg]; exact (below_size (by repeat (first | (with_reducible first | exact HB.out | apply below_alloc | apply pw_below_drewN | apply below_drew1 | refine below_set ?_ GE410.out) | exact HB.out))) : w.heap.size ≤ gb415)); have n4_ := Aside0.mk ((by rw [hg]; exact (below_size (by repeat (first | (with_reducible first | exact HB.out | apply below_alloc | apply pw_below_drewN | apply below_drew1 | refine below_set ?_ GE410.out) | exact HB.out))) : w.heap.size ≤ gb415)); have n5_ := Aside0.mk ((by rw [hg]; exact Nat.ne_of_lt (blk_lt (g := gb410) (o := .cells #[.int .i64 a0_0, .int .i64 a0_1, .slice A0_2 l0_2.length c0_2] 24 (0, 0)) (by (with_reducible repeat (first | refine blk_drewN ?_ _ | refine blk_drew ?_ | refine blk_alloc ?_ _)); exact BK410.out)) : gb410 ≠ gb415)); have n6_ := Aside0.mk ((by rw [hg]; exact Nat.ne_of_gt (blk_lt (g := gb410) (o := .cells #[.int .i64 a0_0, .int .i64 a0_1, .slice A0_2 l0_2.length c0_2] 24 (0, 0)) (by (with_reducible repeat (first | refine blk_drewN ?_ _ | refine blk_drew ?_ | refine blk_alloc ?_ _)); exact BK410.out)) : gb415 ≠ gb410)); clear BK410; clear HB; have BK410 := n0_; have HB := n1_; have BK415 := n2_; have GW415 := n3_; have GE415 := n4_; have NB410_415 := n5_; have NB415_410 := n6_; clear n0_ n1_ n2_ n3_ n4_ n5_ n6_; clear hb hbox hg; have hnb10 := NB415_410.out; have hnc10 := NB410_415.out; have hcz11_0 : w9.cell? ⟨gb415, 0, none⟩ = some (.int .i64 0) := (blk_cell BK415.out 0).trans rfl; have hcz11_1 : w9.cell? ⟨gb415, 1, none⟩ = some (.int .i64 0) := (blk_cell BK415.out 1).trans rfl; have hcz11_2 : w9.cell? ⟨gb415, 2, none⟩ = some (.int .i64 0) := (blk_cell BK415.out 2).trans rfl; have hcz11_3 : w9.cell? ⟨gb415, 3, none⟩ = some (.int .i64 0) := (blk_cell BK415.out 3).trans rfl; have hfz11_0 := blk_frozen BK415.out 0; have hfz11_1 := blk_frozen BK415.out 1; have hfz11_2 := blk_frozen BK415.out 2; have hfz11_3 := blk_frozen BK415.out 3; have hcz12_0 : w9.cell? ⟨gb410, 0, none⟩ = some (.int .i64 a0_0) := (blk_cell BK410.out 0).trans rfl; have hcz12_1 : w9.cell? ⟨gb410, 1, none⟩ = some (.int .i64 a0_1) := (blk_cell BK410.out 1).trans rfl; have hcz12_2 : w9.cell? ⟨gb410, 2, none⟩ = some (.slice A0_2 l0_2.length c0_2) := (blk_cell BK410.out 2).trans rfl; have hfz12_0 := blk_frozen BK410.out 0; have hfz12_1 := blk_frozen BK410.out 1; have hfz12_2 := blk_frozen BK410.out 2; have p416 : 0 ≤ (t411 : Int) := of_decide_eq_true (by first | (with_reducible assumption) | assumption); have q416 : t411 < (l0_2.length : Int) := of_decide_eq_true (by first | (with_reducible assumption) | assumption); obtain ⟨ad416, e416, hx416_0⟩ := Kd.at_int HR0_2.out t411 p416 q416; cases e416; have hn416_0 : ad416.block ≠ gb415 := Nat.ne_of_lt (Nat.lt_of_lt_of_le (by have := World.block_lt_of_cell? _ _ hx416_0; first | rwa [add_block] at this | exact this) GW415.out); have hn416_1 : ad416.block ≠ gb415 := Nat.ne_of_lt (Nat.lt_of_lt_of_le (by have := World.block_lt_of_cell? _ _ hx416_0; first | rwa [add_block] at this | exact this) GW415.out); have hn416_2 : ad416.block ≠ gb415 := Nat.ne_of_lt (Nat.lt_of_lt_of_le (by have := World.block_lt_of_cell? _ _ hx416_0; first | rwa [add_block] at this | exact this) GW415.out); have hn416_3 : ad416.block ≠ gb415 := Nat.ne_of_lt (Nat.lt_of_lt_of_le (by have := World.block_lt_of_cell? _ _ hx416_0; first | rwa [add_block] at this | exact this) GW415.out); replace hx416_0 := (HB.out.cell (World.block_lt_of_cell? w _ hx416_0)).trans hx416_0; replace hx416_0 := (cell_far (p := ⟨gb415, 0, none⟩) (by first | (rw [add_block]; exact hn416_0) | (show (Addr.add _ _).block ≠ _; rw [add_block]; exact hn416_0) | exact hn416_0) (.int .i64 t411)).trans hx416_0; replace hx416_0 := (cell_far (p := ⟨gb415, 1, none⟩) (by first | (rw [add_block]; exact hn416_1) | (show (Addr.add _ _).block ≠ _; rw [add_block]; exact hn416_1) | exact hn416_1) (.int .i64 t412)).trans hx416_0; replace hx416_0 := (cell_far (p := ⟨gb415, 2, none⟩) (by first | (rw [add_block]; exact hn416_2) | (show (Addr.add _ _).block ≠ _; rw [add_block]; exact hn416_2) | exact hn416_2) (.int .i64 t413)).trans hx416_0; replace hx416_0 := (cell_far (p := ⟨gb415, 3, none⟩) (by first | (rw [add_block]; exact hn416_3) | (show (Addr.add _ _).block ≠ _; rw [add_block]; exact hn416_3) | exact hn416_3) (.int .i64 t414)).trans hx416_0; (try have hy416_0 := fun (n_ : Nat) => (show ((((((w9.drewN n_).setCell ⟨gb415, 0, none⟩ (.int .i64 t411)).setCell ⟨gb415, 1, none⟩ (.int .i64 t412)).setCell ⟨gb415, 2, none⟩ (.int .i64 t413)).setCell ⟨gb415, 3, none⟩ (.int .i64 t414))).cell? _ = some _ from hx416_0)); clear hn416_0; clear hn416_1; clear hn416_2; clear hn416_3; replace p416 := eq_true p416; replace q416 := eq_true q416; have p417 : 0 ≤ (t411 : Int) := of_decide_eq_true (by first | (with_reducible assumption) | assumption); have q417 : t411 < (l0_2.length : Int) := of_decide_eq_true (by first | (with_reducible assumption) | assumption); obtain ⟨ad417, e417, hx417_0⟩ := Kd.at_int HR0_2.out t411 p417 q417; obtain rfl : ad416 = ad417 := (by injection e417); have hn417_0 : ad416.block ≠ gb415 := Nat.ne_of_lt (Nat.lt_of_lt_of_le (by have := World.block_lt_of_cell? _ _ hx417_0; first | rwa [add_block] at this | exact this) GW415.out); have hn417_1 : ad416.block ≠ gb415 := Nat.ne_of_lt (Nat.lt_of_lt_of_le (by have := World.block_lt_of_cell? _ _ hx417_0; first | rwa [add_block] at this | exact this) GW415.out); have hn417_2 : ad416.block ≠ gb415 := Nat.ne_of_lt (Nat.lt_of_lt_of_le (by have := World.block_lt_of_cell? _ _ hx417_0; first | rwa [add_block] at this | exact this) GW415.out); have hn417_3 : ad416.block ≠ gb415 := Nat.ne_of_lt (Nat.lt_of_lt_of_le (by have := World.block_lt_of_cell? _ _ hx417_0; first | rwa [add_block] at this | exact this) GW415.out); replace hx417_0 := (HB.out.cell (World.block_lt_of_cell? w _ hx417_0)).trans hx417_0; replace hx417_0 := (cell_far (p := ⟨gb415, 0, none⟩) (by first | (rw [add_block]; exact hn417_0) | (show (Addr.add _ _).block ≠ _; rw [add_block]; exact hn417_0) | exact hn417_0) (.int .i64 t411)).trans hx417_0; replace hx417_0 := (cell_far (p := ⟨gb415, 1, none⟩) (by first | (rw [add_block]; exact hn417_1) | (show (Addr.add _ _).block ≠ _; rw [add_block]; exact hn417_1) | exact hn417_1) (.int .i64 t412)).trans hx417_0; replace hx417_0 := (cell_far (p := ⟨gb415, 2, none⟩) (by first | (rw [add_block]; exact hn417_2) | (show (Addr.add _ _).block ≠ _; rw [add_block]; exact hn417_2) | exact hn417_2) (.int .i64 t413)).trans hx417_0; replace hx417_0 := (cell_far (p := ⟨gb415, 3, none⟩) (by first | (rw [add_block]; exact hn417_3) | (show (Addr.add _ _).block ≠ _; rw [add_block]; exact hn417_3) | exact hn417_3) (.int .i64 t414)).trans hx417_0; (try have hy417_0 := fun (n_ : Nat) => (show ((((((w9.drewN n_).setCell ⟨gb415, 0, none⟩ (.int .i64 t411)).setCell ⟨gb415, 1, none⟩ (.int .i64 t412)).setCell ⟨gb415, 2, none⟩ (.int .i64 t413)).setCell ⟨gb415, 3, none⟩ (.int .i64 t414))).cell? _ = some _ from hx417_0)); clear hn417_0; clear hn417_1; clear hn417_2; clear hn417_3; replace p417 := eq_true p417; replace q417 := eq_true q417))
   repeat (go_quiet (first | ((with_reducible refine gate_dst (N := 2) rfl ?_); refine box_event ?hg (N := 2) ?hd (cs := #[.int .i64 a0_0, .int .i64 a0_1, .slice A0_2 l0_2.length c0_2]) (t := 24) ?hr ?_; (case hd => rfl); (case hg => rfl); (case hr => first | (go_simp; done) | (go_simp; rfl)); intro gb410 hg w6 hbox hb; have n0_ := Aside0.mk (below_step (by repeat (first | (with_reducible first | exact HB.out | apply below_alloc | apply pw_below_drewN | apply below_drew1) | exact HB.out)) hb); have n1_ := Aside0.mk (hbox); have n2_ := Aside0.mk ((by rw [hg]; exact (below_size (by repeat (first | (with_reducible first | exact HB.out | apply below_alloc | apply pw_below_drewN | apply below_drew1) | exact HB.out))) : w.heap.size ≤ gb410)); have n3_ := Aside0.mk ((by rw [hg]; exact (below_size (by repeat (first | (with_reducible first | exact HB.out | apply below_alloc | apply pw_below_drewN | apply below_drew1) | exact HB.out))) : w.heap.size ≤ gb410)); clear HB; have HB := n0_; have BK410 := n1_; have GW410 := n2_; have GE410 := n3_; clear n0_ n1_ n2_ n3_; clear hb hbox hg; have hcz7_0 : w6.cell? ⟨gb410, 0, none⟩ = some (.int .i64 a0_0) := (blk_cell BK410.out 0).trans rfl; have hcz7_1 : w6.cell? ⟨gb410, 1, none⟩ = some (.int .i64 a0_1) := (blk_cell BK410.out 1).trans rfl; have hcz7_2 : w6.cell? ⟨gb410, 2, none⟩ = some (.slice A0_2 l0_2.length c0_2) := (blk_cell BK410.out 2).trans rfl; have hfz7_0 := blk_frozen BK410.out 0; have hfz7_1 := blk_frozen BK410.out 1; have hfz7_2 := blk_frozen BK410.out 2) | (go_at_call 49; (with_reducible refine (hinterlandref02_Places.calls a0_0 a0_1 _ _ l0_2 a1 t411 t412 t413 t414 _ ?side1 ?side2 A3.out).mono ?_); (case side1 => repeat (first | exact (Kd.C_below HR0_2.out HB.out) | (with_reducible refine Kd.C_alloc ?_ _) | (with_reducible refine Kd.C_drewN ?_ _) | (with_reducible refine Kd.C_drew ?_))); (case side2 => exact HC0_2.out); rintro e w8 ⟨rfl, hb⟩; have n0_ := Aside0.mk (blk_below (g := gb410) (o := .cells #[.int .i64 a0_0, .int .i64 a0_1, .slice A0_2 l0_2.length c0_2] 24 (0, 0)) (by (with_reducible repeat (first | refine blk_drewN ?_ _ | refine blk_drew ?_ | refine blk_alloc ?_ _)); exact BK410.out) hb); have n1_ := Aside0.mk (below_step (by repeat (first | (with_reducible first | exact HB.out | apply below_alloc | apply pw_below_drewN | apply below_drew1 | refine below_set ?_ GE410.out) | exact HB.out)) hb); clear BK410; clear HB; have BK410 := n0_; have HB := n1_; clear n0_ n1_; (try clear hb); (try clear hb2); (try clear hk); (try clear hi)) | ((with_reducible refine gate_dst (N := 6) rfl ?_); refine box_event ?hg (N := 6) ?hd (cs := #[.int .i64 0, .int .i64 0, .int .i64 0, .int .i64 0]) (t := 66) ?hr ?_; (case hd => rfl); (case hg => rfl); (case hr => first | (go_simp; done) | (go_simp; rfl)); intro gb415 hg w9 hbox hb; have n0_ := Aside0.mk (blk_below (g := gb410) (o := .cells #[.int .i64 a0_0, .int .i64 a0_1, .slice A0_2 l0_2.length c0_2] 24 (0, 0)) (by (with_reducible repeat (first | refine blk_drewN ?_ _ | refine blk_drew ?_ | refine blk_alloc ?_ _)); exact BK410.out) hb); have n1_ := Aside0.mk (below_step (by repeat (first | (with_reducible first | exact HB.out | apply below_alloc | apply pw_below_drewN | apply below_drew1 | refine below_set ?_ GE410.out) | exact HB.out)) hb); have n2_ := Aside0.mk (hbox); have n3_ := Aside0.mk ((by rw [hg]; exact (below_size (by repeat (first | (with_reducible first | exact HB.out | apply below_alloc | apply pw_below_drewN | apply below_drew1 | refine below_set ?_ GE410.out) | exact HB.out))) : w.heap.size ≤ gb415)); have n4_ := Aside0.mk ((by rw [hg]; exact (below_size (by repeat (first | (with_reducible first | exact HB.out | apply below_alloc | apply pw_below_drewN | apply below_drew1 | refine below_set ?_ GE410.out) | exact HB.out))) : w.heap.size ≤ gb415)); have n5_ := Aside0.mk ((by rw [hg]; exact Nat.ne_of_lt (blk_lt (g := gb410) (o := .cells #[.int .i64 a0_0, .int .i64 a0_1, .slice A0_2 l0_2.length c0_2] 24 (0, 0)) (by (with_reducible repeat (first | refine blk_drewN ?_ _ | refine blk_drew ?_ | refine blk_alloc ?_ _)); exact BK410.out)) : gb410 ≠ gb415)); have n6_ := Aside0.mk ((by rw [hg]; exact Nat.ne_of_gt (blk_lt (g := gb410) (o := .cells #[.int .i64 a0_0, .int .i64 a0_1, .slice A0_2 l0_2.length c0_2] 24 (0, 0)) (by (with_reducible repeat (first | refine blk_drewN ?_ _ | refine blk_drew ?_ | refine blk_alloc ?_ _)); exact BK410.out)) : gb415 ≠ gb410)); clear BK410; clear HB; have BK410 := n0_; have HB := n1_; have BK415 := n2_; have GW415 := n3_; have GE415 := n4_; have NB410_415 := n5_; have NB415_410 := n6_; clear n0_ n1_ n2_ n3_ n4_ n5_ n6_; clear hb hbox hg; have hnb10 := NB415_410.out; have hnc10 := NB410_415.out; have hcz11_0 : w9.cell? ⟨gb415, 0, none⟩ = some (.int .i64 0) := (blk_cell BK415.out 0).trans rfl; have hcz11_1 : w9.cell? ⟨gb415, 1, none⟩ = some (.int .i64 0) := (blk_cell BK415.out 1).trans rfl; have hcz11_2 : w9.cell? ⟨gb415, 2, none⟩ = some (.int .i64 0) := (blk_cell BK415.out 2).trans rfl; have hcz11_3 : w9.cell? ⟨gb415, 3, none⟩ = some (.int .i64 0) := (blk_cell BK415.out 3).trans rfl; have hfz11_0 := blk_frozen BK415.out 0; have hfz11_1 := blk_frozen BK415.out 1; have hfz11_2 := blk_frozen BK415.out 2; have hfz11_3 := blk_frozen BK415.out 3; have hcz12_0 : w9.cell? ⟨gb410, 0, none⟩ = some (.int .i64 a0_0) := (blk_cell BK410.out 0).trans rfl; have hcz12_1 : w9.cell? ⟨gb410, 1, none⟩ = some (.int .i64 a0_1) := (blk_cell BK410.out 1).trans rfl; have hcz12_2 : w9.cell? ⟨gb410, 2, none⟩ = some (.slice A0_2 l0_2.length c0_2) := (blk_cell BK410.out 2).trans rfl; have hfz12_0 := blk_frozen BK410.out 0; have hfz12_1 := blk_frozen BK410.out 1; have hfz12_2 := blk_frozen BK410.out 2; have p416 : 0 ≤ (t411 : Int) := of_decide_eq_true (by first | (with_reducible assumption) | assumption); have q416 : t411 < (l0_2.length : Int) := of_decide_eq_true (by first | (with_reducible assumption) | assumption); obtain ⟨ad416, e416, hx416_0⟩ := Kd.at_int HR0_2.out t411 p416 q416; cases e416; have hn416_0 : ad416.block ≠ gb415 := Nat.ne_of_lt (Nat.lt_of_lt_of_le (by have := World.block_lt_of_cell? _ _ hx416_0; first | rwa [add_block] at this | exact this) GW415.out); have hn416_1 : ad416.block ≠ gb415 := Nat.ne_of_lt (Nat.lt_of_lt_of_le (by have := World.block_lt_of_cell? _ _ hx416_0; first | rwa [add_block] at this | exact this) GW415.out); have hn416_2 : ad416.block ≠ gb415 := Nat.ne_of_lt (Nat.lt_of_lt_of_le (by have := World.block_lt_of_cell? _ _ hx416_0; first | rwa [add_block] at this | exact this) GW415.out); have hn416_3 : ad416.block ≠ gb415 := Nat.ne_of_lt (Nat.lt_of_lt_of_le (by have := World.block_lt_of_cell? _ _ hx416_0; first | rwa [add_block] at this | exact this) GW415.out); replace hx416_0 := (HB.out.cell (World.block_lt_of_cell? w _ hx416_0)).trans hx416_0; replace hx416_0 := (cell_far (p := ⟨gb415, 0, none⟩) (by first | (rw [add_block]; exact hn416_0) | (show (Addr.add _ _).block ≠ _; rw [add_block]; exact hn416_0) | exact hn416_0) (.int .i64 t411)).trans hx416_0; replace hx416_0 := (cell_far (p := ⟨gb415, 1, none⟩) (by first | (rw [add_block]; exact hn416_1) | (show (Addr.add _ _).block ≠ _; rw [add_block]; exact hn416_1) | exact hn416_1) (.int .i64 t412)).trans hx416_0; replace hx416_0 := (cell_far (p := ⟨gb415, 2, none⟩) (by first | (rw [add_block]; exact hn416_2) | (show (Addr.add _ _).block ≠ _; rw [add_block]; exact hn416_2) | exact hn416_2) (.int .i64 t413)).trans hx416_0; replace hx416_0 := (cell_far (p := ⟨gb415, 3, none⟩) (by first | (rw [add_block]; exact hn416_3) | (show (Addr.add _ _).block ≠ _; rw [add_block]; exact hn416_3) | exact hn416_3) (.int .i64 t414)).trans hx416_0; (try have hy416_0 := fun (n_ : Nat) => (show ((((((w9.drewN n_).setCell ⟨gb415, 0, none⟩ (.int .i64 t411)).setCell ⟨gb415, 1, none⟩ (.int .i64 t412)).setCell ⟨gb415, 2, none⟩ (.int .i64 t413)).setCell ⟨gb415, 3, none⟩ (.int .i64 t414))).cell? _ = some _ from hx416_0)); clear hn416_0; clear hn416_1; clear hn416_2; clear hn416_3; replace p416 := eq_true p416; replace q416 := eq_true q416; have p417 : 0 ≤ (t411 : Int) := of_decide_eq_true (by first | (with_reducible assumption) | assumption); have q417 : t411 < (l0_2.length : Int) := of_decide_eq_true (by first | (with_reducible assumption) | assumption); obtain ⟨ad417, e417, hx417_0⟩ := Kd.at_int HR0_2.out t411 p417 q417; obtain rfl : ad416 = ad417 := (by injection e417); have hn417_0 : ad416.block ≠ gb415 := Nat.ne_of_lt (Nat.lt_of_lt_of_le (by have := World.block_lt_of_cell? _ _ hx417_0; first | rwa [add_block] at this | exact this) GW415.out); have hn417_1 : ad416.block ≠ gb415 := Nat.ne_of_lt (Nat.lt_of_lt_of_le (by have := World.block_lt_of_cell? _ _ hx417_0; first | rwa [add_block] at this | exact this) GW415.out); have hn417_2 : ad416.block ≠ gb415 := Nat.ne_of_lt (Nat.lt_of_lt_of_le (by have := World.block_lt_of_cell? _ _ hx417_0; first | rwa [add_block] at this | exact this) GW415.out); have hn417_3 : ad416.block ≠ gb415 := Nat.ne_of_lt (Nat.lt_of_lt_of_le (by have := World.block_lt_of_cell? _ _ hx417_0; first | rwa [add_block] at this | exact this) GW415.out); replace hx417_0 := (HB.out.cell (World.block_lt_of_cell? w _ hx417_0)).trans hx417_0; replace hx417_0 := (cell_far (p := ⟨gb415, 0, none⟩) (by first | (rw [add_block]; exact hn417_0) | (show (Addr.add _ _).block ≠ _; rw [add_block]; exact hn417_0) | exact hn417_0) (.int .i64 t411)).trans hx417_0; replace hx417_0 := (cell_far (p := ⟨gb415, 1, none⟩) (by first | (rw [add_block]; exact hn417_1) | (show (Addr.add _ _).block ≠ _; rw [add_block]; exact hn417_1) | exact hn417_1) (.int .i64 t412)).trans hx417_0; replace hx417_0 := (cell_far (p := ⟨gb415, 2, none⟩) (by first | (rw [add_block]; exact hn417_2) | (show (Addr.add _ _).block ≠ _; rw [add_block]; exact hn417_2) | exact hn417_2) (.int .i64 t413)).trans hx417_0; replace hx417_0 := (cell_far (p := ⟨gb415, 3, none⟩) (by first | (rw [add_block]; exact hn417_3) | (show (Addr.add _ _).block ≠ _; rw [add_block]; exact hn417_3) | exact hn417_3) (.int .i64 t414)).trans hx417_0; (try have hy417_0 := fun (n_ : Nat) => (show ((((((w9.drewN n_).setCell ⟨gb415, 0, none⟩ (.int .i64 t411)).setCell ⟨gb415, 1, none⟩ (.int .i64 t412)).setCell ⟨gb415, 2, none⟩ (.int .i64 t413)).setCell ⟨gb415, 3, none⟩ (.int .i64 t414))).cell? _ = some _ from hx417_0)); clear hn417_0; clear hn417_1; clear hn417_2; clear hn417_3; replace p417 := eq_true p417; replace q417 := eq_true q417)); try go_wp2_with (first | ((with_reducible refine gate_dst (N := 2) rfl ?_); refine box_event ?hg (N := 2) ?hd (cs := #[.int .i64 a0_0, .int .i64 a0_1, .slice A0_2 l0_2.length c0_2]) (t := 24) ?hr ?_; (case hd => rfl); (case hg => rfl); (case hr => first | (go_simp; done) | (go_simp; rfl)); intro gb410 hg w6 hbox hb; have n0_ := Aside0.mk (below_step (by repeat (first | (with_reducible first | exact HB.out | apply below_alloc | apply pw_below_drewN | apply below_drew1) | exact HB.out)) hb); have n1_ := Aside0.mk (hbox); have n2_ := Aside0.mk ((by rw [hg]; exact (below_size (by repeat (first | (with_reducible first | exact HB.out | apply below_alloc | apply pw_below_drewN | apply below_drew1) | exact HB.out))) : w.heap.size ≤ gb410)); have n3_ := Aside0.mk ((by rw [hg]; exact (below_size (by repeat (first | (with_reducible first | exact HB.out | apply below_alloc | apply pw_below_drewN | apply below_drew1) | exact HB.out))) : w.heap.size ≤ gb410)); clear HB; have HB := n0_; have BK410 := n1_; have GW410 := n2_; have GE410 := n3_; clear n0_ n1_ n2_ n3_; clear hb hbox hg; have hcz7_0 : w6.cell? ⟨gb410, 0, none⟩ = some (.int .i64 a0_0) := (blk_cell BK410.out 0).trans rfl; have hcz7_1 : w6.cell? ⟨gb410, 1, none⟩ = some (.int .i64 a0_1) := (blk_cell BK410.out 1).trans rfl; have hcz7_2 : w6.cell? ⟨gb410, 2, none⟩ = some (.slice A0_2 l0_2.length c0_2) := (blk_cell BK410.out 2).trans rfl; have hfz7_0 := blk_frozen BK410.out 0; have hfz7_1 := blk_frozen BK410.out 1; have hfz7_2 := blk_frozen BK410.out 2) | (go_at_call 49; (with_reducible refine (hinterlandref02_Places.calls a0_0 a0_1 _ _ l0_2 a1 t411 t412 t413 t414 _ ?side1 ?side2 A3.out).mono ?_); (case side1 => repeat (first | exact (Kd.C_below HR0_2.out HB.out) | (with_reducible refine Kd.C_alloc ?_ _) | (with_reducible refine Kd.C_drewN ?_ _) | (with_reducible refine Kd.C_drew ?_))); (case side2 => exact HC0_2.out); rintro e w8 ⟨rfl, hb⟩; have n0_ := Aside0.mk (blk_below (g := gb410) (o := .cells #[.int .i64 a0_0, .int .i64 a0_1, .slice A0_2 l0_2.length c0_2] 24 (0, 0)) (by (with_reducible repeat (first | refine blk_drewN ?_ _ | refine blk_drew ?_ | refine blk_alloc ?_ _)); exact BK410.out) hb); have n1_ := Aside0.mk (below_step (by repeat (first | (with_reducible first | exact HB.out | apply below_alloc | apply pw_below_drewN | apply below_drew1 | refine below_set ?_ GE410.out) | exact HB.out)) hb); clear BK410; clear HB; have BK410 := n0_; have HB := n1_; clear n0_ n1_; (try clear hb); (try clear hb2); (try clear hk); (try clear hi)) | ((with_reducible refine gate_dst (N := 6) rfl ?_); refine box_event ?hg (N := 6) ?hd (cs := #[.int .i64 0, .int .i64 0, .int .i64 0, .int .i64 0]) (t := 66) ?hr ?_; (case hd => rfl); (case hg => rfl); (case hr => first | (go_simp; done) | (go_simp; rfl)); intro gb415 hg w9 hbox hb; have n0_ := Aside0.mk (blk_below (g := gb410) (o := .cells #[.int .i64 a0_0, .int .i64 a0_1, .slice A0_2 l0_2.length c0_2] 24 (0, 0)) (by (with_reducible repeat (first | refine blk_drewN ?_ _ | refine blk_drew ?_ | refine blk_alloc ?_ _)); exact BK410.out) hb); have n1_ := Aside0.mk (below_step (by repeat (first | (with_reducible first | exact HB.out | apply below_alloc | apply pw_below_drewN | apply below_drew1 | refine below_set ?_ GE410.out) | exact HB.out)) hb); have n2_ := Aside0.mk (hbox); have n3_ := Aside0.mk ((by rw [hg]; exact (below_size (by repeat (first | (with_reducible first | exact HB.out | apply below_alloc | apply pw_below_drewN | apply below_drew1 | refine below_set ?_ GE410.out) | exact HB.out))) : w.heap.size ≤ gb415)); have n4_ := Aside0.mk ((by rw [hg]; exact (below_size (by repeat (first | (with_reducible first | exact HB.out | apply below_alloc | apply pw_below_drewN | apply below_drew1 | refine below_set ?_ GE410.out) | exact HB.out))) : w.heap.size ≤ gb415)); have n5_ := Aside0.mk ((by rw [hg]; exact Nat.ne_of_lt (blk_lt (g := gb410) (o := .cells #[.int .i64 a0_0, .int .i64 a0_1, .slice A0_2 l0_2.length c0_2] 24 (0, 0)) (by (with_reducible repeat (first | refine blk_drewN ?_ _ | refine blk_drew ?_ | refine blk_alloc ?_ _)); exact BK410.out)) : gb410 ≠ gb415)); have n6_ := Aside0.mk ((by rw [hg]; exact Nat.ne_of_gt (blk_lt (g := gb410) (o := .cells #[.int .i64 a0_0, .int .i64 a0_1, .slice A0_2 l0_2.length c0_2] 24 (0, 0)) (by (with_reducible repeat (first | refine blk_drewN ?_ _ | refine blk_drew ?_ | refine blk_alloc ?_ _)); exact BK410.out)) : gb415 ≠ gb410)); clear BK410; clear HB; have BK410 := n0_; have HB := n1_; have BK415 := n2_; have GW415 := n3_; have GE415 := n4_; have NB410_415 := n5_; have NB415_410 := n6_; clear n0_ n1_ n2_ n3_ n4_ n5_ n6_; clear hb hbox hg; have hnb10 := NB415_410.out; have hnc10 := NB410_415.out; have hcz11_0 : w9.cell? ⟨gb415, 0, none⟩ = some (.int .i64 0) := (blk_cell BK415.out 0).trans rfl; have hcz11_1 : w9.cell? ⟨gb415, 1, none⟩ = some (.int .i64 0) := (blk_cell BK415.out 1).trans rfl; have hcz11_2 : w9.cell? ⟨gb415, 2, none⟩ = some (.int .i64 0) := (blk_cell BK415.out 2).trans rfl; have hcz11_3 : w9.cell? ⟨gb415, 3, none⟩ = some (.int .i64 0) := (blk_cell BK415.out 3).trans rfl; have hfz11_0 := blk_frozen BK415.out 0; have hfz11_1 := blk_frozen BK415.out 1; have hfz11_2 := blk_frozen BK415.out 2; have hfz11_3 := blk_frozen BK415.out 3; have hcz12_0 : w9.cell? ⟨gb410, 0, none⟩ = some (.int .i64 a0_0) := (blk_cell BK410.out 0).trans rfl; have hcz12_1 : w9.cell? ⟨gb410, 1, none⟩ = some (.int .i64 a0_1) := (blk_cell BK410.out 1).trans rfl; have hcz12_2 : w9.cell? ⟨gb410, 2, none⟩ = some (.slice A0_2 l0_2.length c0_2) := (blk_cell BK410.out 2).trans rfl; have hfz12_0 := blk_frozen BK410.out 0; have hfz12_1 := blk_frozen BK410.out 1; have hfz12_2 := blk_frozen BK410.out 2; have p416 : 0 ≤ (t411 : Int) := of_decide_eq_true (by first | (with_reducible assumption) | assumption); have q416 : t411 < (l0_2.length : Int) := of_decide_eq_true (by first | (with_reducible assumption) | assumption); obtain ⟨ad416, e416, hx416_0⟩ := Kd.at_int HR0_2.out t411 p416 q416; cases e416; have hn416_0 : ad416.block ≠ gb415 := Nat.ne_of_lt (Nat.lt_of_lt_of_le (by have := World.block_lt_of_cell? _ _ hx416_0; first | rwa [add_block] at this | exact this) GW415.out); have hn416_1 : ad416.block ≠ gb415 := Nat.ne_of_lt (Nat.lt_of_lt_of_le (by have := World.block_lt_of_cell? _ _ hx416_0; first | rwa [add_block] at this | exact this) GW415.out); have hn416_2 : ad416.block ≠ gb415 := Nat.ne_of_lt (Nat.lt_of_lt_of_le (by have := World.block_lt_of_cell? _ _ hx416_0; first | rwa [add_block] at this | exact this) GW415.out); have hn416_3 : ad416.block ≠ gb415 := Nat.ne_of_lt (Nat.lt_of_lt_of_le (by have := World.block_lt_of_cell? _ _ hx416_0; first | rwa [add_block] at this | exact this) GW415.out); replace hx416_0 := (HB.out.cell (World.block_lt_of_cell? w _ hx416_0)).trans hx416_0; replace hx416_0 := (cell_far (p := ⟨gb415, 0, none⟩) (by first | (rw [add_block]; exact hn416_0) | (show (Addr.add _ _).block ≠ _; rw [add_block]; exact hn416_0) | exact hn416_0) (.int .i64 t411)).trans hx416_0; replace hx416_0 := (cell_far (p := ⟨gb415, 1, none⟩) (by first | (rw [add_block]; exact hn416_1) | (show (Addr.add _ _).block ≠ _; rw [add_block]; exact hn416_1) | exact hn416_1) (.int .i64 t412)).trans hx416_0; replace hx416_0 := (cell_far (p := ⟨gb415, 2, none⟩) (by first | (rw [add_block]; exact hn416_2) | (show (Addr.add _ _).block ≠ _; rw [add_block]; exact hn416_2) | exact hn416_2) (.int .i64 t413)).trans hx416_0; replace hx416_0 := (cell_far (p := ⟨gb415, 3, none⟩) (by first | (rw [add_block]; exact hn416_3) | (show (Addr.add _ _).block ≠ _; rw [add_block]; exact hn416_3) | exact hn416_3) (.int .i64 t414)).trans hx416_0; (try have hy416_0 := fun (n_ : Nat) => (show ((((((w9.drewN n_).setCell ⟨gb415, 0, none⟩ (.int .i64 t411)).setCell ⟨gb415, 1, none⟩ (.int .i64 t412)).setCell ⟨gb415, 2, none⟩ (.int .i64 t413)).setCell ⟨gb415, 3, none⟩ (.int .i64 t414))).cell? _ = some _ from hx416_0)); clear hn416_0; clear hn416_1; clear hn416_2; clear hn416_3; replace p416 := eq_true p416; replace q416 := eq_true q416; have p417 : 0 ≤ (t411 : Int) := of_decide_eq_true (by first | (with_reducible assumption) | assumption); have q417 : t411 < (l0_2.length : Int) := of_decide_eq_true (by first | (with_reducible assumption) | assumption); obtain ⟨ad417, e417, hx417_0⟩ := Kd.at_int HR0_2.out t411 p417 q417; obtain rfl : ad416 = ad417 := (by injection e417); have hn417_0 : ad416.block ≠ gb415 := Nat.ne_of_lt (Nat.lt_of_lt_of_le (by have := World.block_lt_of_cell? _ _ hx417_0; first | rwa [add_block] at this | exact this) GW415.out); have hn417_1 : ad416.block ≠ gb415 := Nat.ne_of_lt (Nat.lt_of_lt_of_le (by have := World.block_lt_of_cell? _ _ hx417_0; first | rwa [add_block] at this | exact this) GW415.out); have hn417_2 : ad416.block ≠ gb415 := Nat.ne_of_lt (Nat.lt_of_lt_of_le (by have := World.block_lt_of_cell? _ _ hx417_0; first | rwa [add_block] at this | exact this) GW415.out); have hn417_3 : ad416.block ≠ gb415 := Nat.ne_of_lt (Nat.lt_of_lt_of_le (by have := World.block_lt_of_cell? _ _ hx417_0; first | rwa [add_block] at this | exact this) GW415.out); replace hx417_0 := (HB.out.cell (World.block_lt_of_cell? w _ hx417_0)).trans hx417_0; replace hx417_0 := (cell_far (p := ⟨gb415, 0, none⟩) (by first | (rw [add_block]; exact hn417_0) | (show (Addr.add _ _).block ≠ _; rw [add_block]; exact hn417_0) | exact hn417_0) (.int .i64 t411)).trans hx417_0; replace hx417_0 := (cell_far (p := ⟨gb415, 1, none⟩) (by first | (rw [add_block]; exact hn417_1) | (show (Addr.add _ _).block ≠ _; rw [add_block]; exact hn417_1) | exact hn417_1) (.int .i64 t412)).trans hx417_0; replace hx417_0 := (cell_far (p := ⟨gb415, 2, none⟩) (by first | (rw [add_block]; exact hn417_2) | (show (Addr.add _ _).block ≠ _; rw [add_block]; exact hn417_2) | exact hn417_2) (.int .i64 t413)).trans hx417_0; replace hx417_0 := (cell_far (p := ⟨gb415, 3, none⟩) (by first | (rw [add_block]; exact hn417_3) | (show (Addr.add _ _).block ≠ _; rw [add_block]; exact hn417_3) | exact hn417_3) (.int .i64 t414)).trans hx417_0; (try have hy417_0 := fun (n_ : Nat) => (show ((((((w9.drewN n_).setCell ⟨gb415, 0, none⟩ (.int .i64 t411)).setCell ⟨gb415, 1, none⟩ (.int .i64 t412)).setCell ⟨gb415, 2, none⟩ (.int .i64 t413)).setCell ⟨gb415, 3, none⟩ (.int .i64 t414))).cell? _ = some _ from hx417_0)); clear hn417_0; clear hn417_1; clear hn417_2; clear hn417_3; replace p417 := eq_true p417; replace q417 := eq_true q417)))
   go_loopg [7, 8, 31] k (fun kq v7 v8 v31 w' => ∃ (x7_1 : Int) (x8_1 : Int) (x31_1 : Int), v7 = .int .i64 x7_1 ∧ v8 = .int .i64 x8_1 ∧ v31 = .int .i64 x31_1 ∧ Aside0 (hinterlandref02_Face.l0 kq x7_1 x8_1 x31_1 a0_0 a0_1 l0_2 t411 t412 t413 t414 t411 t412 t413 t414 = some (r1, r2)) ∧ Aside0 (kq ≤ k) ∧ Aside0 (w'.heap[gb410]? = some (.cells #[.int .i64 a0_0, .int .i64 a0_1, (.slice (some ad416) l0_2.length c0_2)] 24 (0, 0))) ∧ Aside0 (w'.heap[gb415]? = some (.cells #[.int .i64 t411, .int .i64 t412, .int .i64 t413, .int .i64 t414] 66 (0, 0))) ∧ Aside0 (Below w.heap.size w w'))
   case atStart => exact ⟨(rd l0_2 t411), (rd l0_2 t411), (0), (by first | rfl | (simp; done) | (simp [*]; done) | (refine congrArg (Value.int .i64) ?_; unfold wrap64; omega) | (simp only [shl_one_small _ (by assumption) (by omega)]; done) | (simp [*]; rw [shl_one_small _ (by assumption) (by omega)]; done)), (by first | rfl | (simp; done) | (simp [*]; done) | (refine congrArg (Value.int .i64) ?_; unfold wrap64; omega) | (simp only [shl_one_small _ (by assumption) (by omega)]; done) | (simp [*]; rw [shl_one_small _ (by assumption) (by omega)]; done)), (by first | rfl | (simp; done) | (simp [*]; done) | (refine congrArg (Value.int .i64) ?_; unfold wrap64; omega) | (simp only [shl_one_small _ (by assumption) (by omega)]; done) | (simp [*]; rw [shl_one_small _ (by assumption) (by omega)]; done)), H', ⟨Nat.le_refl _⟩, ⟨by (with_reducible repeat (first | refine blk_drewN ?_ _ | refine blk_drew ?_ | refine blk_alloc ?_ _)); refine blk_far ?_ NB410_415.out _; (with_reducible repeat (first | refine blk_drewN ?_ _ | refine blk_drew ?_ | refine blk_alloc ?_ _)); refine blk_far ?_ NB410_415.out _; (with_reducible repeat (first | refine blk_drewN ?_ _ | refine blk_drew ?_ | refine blk_alloc ?_ _)); refine blk_far ?_ NB410_415.out _; (with_reducible repeat (first | refine blk_drewN ?_ _ | refine blk_drew ?_ | refine blk_alloc ?_ _)); refine blk_far ?_ NB410_415.out _; (with_reducible repeat (first | refine blk_drewN ?_ _ | refine blk_drew ?_ | refine blk_alloc ?_ _)); exact BK410.out⟩, ⟨by (with_reducible repeat (first | refine blk_drewN ?_ _ | refine blk_drew ?_ | refine blk_alloc ?_ _)); refine blk_put (cs := #[.int .i64 t411, .int .i64 t412, .int .i64 t413, .int .i64 0]) ?_ 3 _ rfl; (with_reducible repeat (first | refine blk_drewN ?_ _ | refine blk_drew ?_ | refine blk_alloc ?_ _)); refine blk_put (cs := #[.int .i64 t411, .int .i64 t412, .int .i64 0, .int .i64 0]) ?_ 2 _ rfl; (with_reducible repeat (first | refine blk_drewN ?_ _ | refine blk_drew ?_ | refine blk_alloc ?_ _)); refine blk_put (cs := #[.int .i64 t411, .int .i64 0, .int .i64 0, .int .i64 0]) ?_ 1 _ rfl; (with_reducible repeat (first | refine blk_drewN ?_ _ | refine blk_drew ?_ | refine blk_alloc ?_ _)); refine blk_put (cs := #[.int .i64 0, .int .i64 0, .int .i64 0, .int .i64 0]) ?_ 0 _ rfl; (with_reducible repeat (first | refine blk_drewN ?_ _ | refine blk_drew ?_ | refine blk_alloc ?_ _)); exact BK415.out⟩, ⟨by repeat (first | (with_reducible first | exact HB.out | apply below_alloc | apply pw_below_drewN | apply below_drew1 | refine below_set ?_ GE410.out | refine below_set ?_ GE415.out) | exact HB.out)⟩⟩
   case round =>
    clear H'
    try clear c1
    try clear p2
    try clear c4
    try clear c4b0
    try clear p4
    try clear q4
    try clear hx4
    try clear c5
    try clear c5b0
    try clear p6
    try clear c10
    try clear hcz11_0
    try clear hcz11_1
    try clear hcz11_2
    try clear hcz11_3
    try clear hcz12_0
    try clear hcz12_1
    try clear hcz12_2
    try clear hcz7_0
    try clear hcz7_1
    try clear hcz7_2
    try clear hfz11_0
    try clear hfz11_1
    try clear hfz11_2
    try clear hfz11_3
    try clear hfz12_0
    try clear hfz12_1
    try clear hfz12_2
    try clear hfz7_0
    try clear hfz7_1
    try clear hfz7_2
    try clear hx416_0
    try clear hx417_0
    try clear p416
    try clear p417
    try clear q416
    try clear q417
    obtain ⟨x7_1, x8_1, x31_1, rfl, rfl, rfl, HA, HK1, BK410, BK415, HB⟩ := hrel
    cases gk with
    | zero => exact absurd HA.out (by simp [hinterlandref02_Face.l0])
    | succ k1 =>
     have H := HA.out
     clear HA
     simp only [hinterlandref02_Face.l0] at H
     by_cases c13 : x31_1 < 4
     ·rw [if_pos c13] at H
      have c13b0 : decide (x31_1 < 4) = true := decide_eq_true c13
      clear c13
      by_cases c14 : 0 ≤ x31_1
      ·rw [if_pos c14] at H
       have c14b0 : decide (0 ≤ x31_1) = true := decide_eq_true c14
       clear c14
       by_cases c15 : 0 ≤ (rd [t411, t412, t413, t414] x31_1)
       ·rw [if_pos c15] at H
        have c15b0 : decide (0 ≤ (rd [t411, t412, t413, t414] x31_1)) = true := decide_eq_true c15
        clear c15
        by_cases c16 : (rd [t411, t412, t413, t414] x31_1) < (l0_2.length : Int)
        ·rw [if_pos c16] at H
         have c16b0 : decide ((rd [t411, t412, t413, t414] x31_1) < (l0_2.length : Int)) = true := decide_eq_true c16
         clear c16
         obtain ⟨ji17, hji17⟩ : ∃ j_ : Int, (mn x7_1 (rd l0_2 (rd [t411, t412, t413, t414] x31_1))) = j_ := ⟨_, rfl⟩
         replace H : (hinterlandref02_Face.l0 k1 ji17 (mx x8_1 (rd l0_2 (rd [t411, t412, t413, t414] x31_1))) (wrap64 (x31_1 + 1)) a0_0 a0_1 l0_2 t411 t412 t413 t414 t411 t412 t413 t414) = some (r1, r2) := by first | (rw [hji17] at H; exact H) | (simp only [hji17] at H ⊢; exact H)
         have hji17_ : (if (rd l0_2 (rd [t411, t412, t413, t414] x31_1)) < x7_1 then (rd l0_2 (rd [t411, t412, t413, t414] x31_1)) else x7_1) = ji17 := hji17
         obtain ⟨ji18, hji18⟩ : ∃ j_ : Int, (mx x8_1 (rd l0_2 (rd [t411, t412, t413, t414] x31_1))) = j_ := ⟨_, rfl⟩
         replace H : (hinterlandref02_Face.l0 k1 ji17 ji18 (wrap64 (x31_1 + 1)) a0_0 a0_1 l0_2 t411 t412 t413 t414 t411 t412 t413 t414) = some (r1, r2) := by first | (rw [hji18] at H; exact H) | (simp only [hji18] at H ⊢; exact H)
         have hji18_ : (if x8_1 < (rd l0_2 (rd [t411, t412, t413, t414] x31_1)) then (rd l0_2 (rd [t411, t412, t413, t414] x31_1)) else x8_1) = ji18 := hji18
         have H' := Aside0.mk H
         clear H
         have pr19 : 0 ≤ (x31_1 : Int) := of_decide_eq_true (by first | (with_reducible assumption) | assumption)
         have qr19 : (x31_1 : Int) < 4 := of_decide_eq_true (by first | (with_reducible assumption) | assumption)
         have har19 : ∀ w_ : World, (Instr.index 66 (.agg #[.int .i64 t411, .int .i64 t412, .int .i64 t413, .int .i64 t414]) (.int .i64 x31_1)).run Try.prog w_ = .ok (.int .i64 (rd [t411, t412, t413, t414] x31_1)) w_ := fun w_ => run_arr Try.underlying66 Try.underlying3 rfl (by kernel_rfl) .i64 [t411, t412, t413, t414] rfl x31_1 pr19 qr19 w_
         have hnb20 := NB410_415.out
         have hnc20 := NB415_410.out
         have hcz21_0 : wr.cell? ⟨gb410, 0, none⟩ = some (.int .i64 a0_0) := (blk_cell BK410.out 0).trans rfl
         have hcz21_1 : wr.cell? ⟨gb410, 1, none⟩ = some (.int .i64 a0_1) := (blk_cell BK410.out 1).trans rfl
         have hcz21_2 : wr.cell? ⟨gb410, 2, none⟩ = some (.slice (some ad416) l0_2.length c0_2) := (blk_cell BK410.out 2).trans rfl
         have hfz21_0 := blk_frozen BK410.out 0
         have hfz21_1 := blk_frozen BK410.out 1
         have hfz21_2 := blk_frozen BK410.out 2
         have p418 : 0 ≤ ((rd [t411, t412, t413, t414] x31_1) : Int) := of_decide_eq_true (by first | (with_reducible assumption) | assumption)
         have q418 : (rd [t411, t412, t413, t414] x31_1) < (l0_2.length : Int) := of_decide_eq_true (by first | (with_reducible assumption) | assumption)
         obtain ⟨ad418, e418, hx418_0⟩ := Kd.at_int HR0_2.out (rd [t411, t412, t413, t414] x31_1) p418 q418
         obtain rfl : ad416 = ad418 := (by injection e418)
         replace hx418_0 := (HB.out.cell (World.block_lt_of_cell? w _ hx418_0)).trans hx418_0
         replace p418 := eq_true p418
         replace q418 := eq_true q418
         have p419 : 0 ≤ ((rd [t411, t412, t413, t414] x31_1) : Int) := of_decide_eq_true (by first | (with_reducible assumption) | assumption)
         have q419 : (rd [t411, t412, t413, t414] x31_1) < (l0_2.length : Int) := of_decide_eq_true (by first | (with_reducible assumption) | assumption)
         obtain ⟨ad419, e419, hx419_0⟩ := Kd.at_int HR0_2.out (rd [t411, t412, t413, t414] x31_1) p419 q419
         obtain rfl : ad416 = ad419 := (by injection e419)
         replace hx419_0 := (HB.out.cell (World.block_lt_of_cell? w _ hx419_0)).trans hx419_0
         replace p419 := eq_true p419
         replace q419 := eq_true q419
         go_wp2
         repeat (go_quiet (fail); try go_wp2)
         go_roundg k1
         case measure => have := HK1.out; omega
         case rel => exact ⟨(ji17), (ji18), (wrap64 (x31_1 + 1)), (by first | rfl | (simp; done) | (simp only [← hji17]; rw [shl_one_small _ (by assumption) (by omega)]; done) | (simp only [← hji17] <;> (first | rfl | simp)) | (simp [*]; done) | (refine congrArg (Value.int .i64) ?_; unfold wrap64; omega) | (simp only [shl_one_small _ (by assumption) (by omega)]; done) | (simp [*]; rw [shl_one_small _ (by assumption) (by omega)]; done)), (by first | rfl | (simp; done) | (simp only [← hji18]; rw [shl_one_small _ (by assumption) (by omega)]; done) | (simp only [← hji18] <;> (first | rfl | simp)) | (simp [*]; done) | (refine congrArg (Value.int .i64) ?_; unfold wrap64; omega) | (simp only [shl_one_small _ (by assumption) (by omega)]; done) | (simp [*]; rw [shl_one_small _ (by assumption) (by omega)]; done)), (by first | rfl | (simp; done) | (simp [*]; done) | (refine congrArg (Value.int .i64) ?_; unfold wrap64; omega) | (simp only [shl_one_small _ (by assumption) (by omega)]; done) | (simp [*]; rw [shl_one_small _ (by assumption) (by omega)]; done)), H', ⟨by have := HK1.out; omega⟩, ⟨by (with_reducible repeat (first | refine blk_drewN ?_ _ | refine blk_drew ?_ | refine blk_alloc ?_ _)); exact BK410.out⟩, ⟨by (with_reducible repeat (first | refine blk_drewN ?_ _ | refine blk_drew ?_ | refine blk_alloc ?_ _)); exact BK415.out⟩, ⟨by repeat (first | (with_reducible first | exact HB.out | apply below_alloc | apply pw_below_drewN | apply below_drew1 | refine below_set ?_ GE410.out | refine below_set ?_ GE415.out) | exact HB.out)⟩⟩
        ·rw [if_neg c16] at H
         exact absurd H (by simp)
       ·rw [if_neg c15] at H
        exact absurd H (by simp)
      ·rw [if_neg c14] at H
       exact absurd H (by simp)
     ·rw [if_neg c13] at H
      have c13b0 : decide (x31_1 < 4) = false := decide_eq_false c13
      clear c13
      have H' := Aside0.mk H
      clear H
      have hnb22 := NB415_410.out
      have hnc22 := NB410_415.out
      have hcz23_0 : wr.cell? ⟨gb415, 0, none⟩ = some (.int .i64 t411) := (blk_cell BK415.out 0).trans rfl
      have hcz23_1 : wr.cell? ⟨gb415, 1, none⟩ = some (.int .i64 t412) := (blk_cell BK415.out 1).trans rfl
      have hcz23_2 : wr.cell? ⟨gb415, 2, none⟩ = some (.int .i64 t413) := (blk_cell BK415.out 2).trans rfl
      have hcz23_3 : wr.cell? ⟨gb415, 3, none⟩ = some (.int .i64 t414) := (blk_cell BK415.out 3).trans rfl
      have hfz23_0 := blk_frozen BK415.out 0
      have hfz23_1 := blk_frozen BK415.out 1
      have hfz23_2 := blk_frozen BK415.out 2
      have hfz23_3 := blk_frozen BK415.out 3
      go_wp2
      repeat (go_quiet (fail); try go_wp2)
      go_loopg [11, 12, 50] k1 (fun kq v11 v12 v50 w' => ∃ (x11_2 : Int) (x12_2 : Int) (x50_2 : Int), v11 = .int .i64 x11_2 ∧ v12 = .int .i64 x12_2 ∧ v50 = .int .i64 x50_2 ∧ Aside0 (hinterlandref02_Face.l1 kq x7_1 x8_1 x11_2 x12_2 x50_2 a0_0 a0_1 l0_2 t411 t412 t413 t414 = some (r1, r2)) ∧ Aside0 (kq ≤ k1) ∧ Aside0 (w'.heap[gb410]? = some (.cells #[.int .i64 a0_0, .int .i64 a0_1, (.slice (some ad416) l0_2.length c0_2)] 24 (0, 0))) ∧ Aside0 (w'.heap[gb415]? = some (.cells #[.int .i64 t411, .int .i64 t412, .int .i64 t413, .int .i64 t414] 66 (0, 0))) ∧ Aside0 (Below w.heap.size w w'))
      case atStart => exact ⟨(0), (1), (0), (by first | rfl | (simp; done) | (simp [*]; done) | (refine congrArg (Value.int .i64) ?_; unfold wrap64; omega) | (simp only [shl_one_small _ (by assumption) (by omega)]; done) | (simp [*]; rw [shl_one_small _ (by assumption) (by omega)]; done)), (by first | rfl | (simp; done) | (simp [*]; done) | (refine congrArg (Value.int .i64) ?_; unfold wrap64; omega) | (simp only [shl_one_small _ (by assumption) (by omega)]; done) | (simp [*]; rw [shl_one_small _ (by assumption) (by omega)]; done)), (by first | rfl | (simp; done) | (simp [*]; done) | (refine congrArg (Value.int .i64) ?_; unfold wrap64; omega) | (simp only [shl_one_small _ (by assumption) (by omega)]; done) | (simp [*]; rw [shl_one_small _ (by assumption) (by omega)]; done)), H', ⟨Nat.le_refl _⟩, ⟨by (with_reducible repeat (first | refine blk_drewN ?_ _ | refine blk_drew ?_ | refine blk_alloc ?_ _)); exact BK410.out⟩, ⟨by (with_reducible repeat (first | refine blk_drewN ?_ _ | refine blk_drew ?_ | refine blk_alloc ?_ _)); exact BK415.out⟩, ⟨by repeat (first | (with_reducible first | exact HB.out | apply below_alloc | apply pw_below_drewN | apply below_drew1 | refine below_set ?_ GE410.out | refine below_set ?_ GE415.out) | exact HB.out)⟩⟩
      case round =>
       clear H'
       try clear c1
       try clear c2
       try clear p2
       try clear c4
       try clear c4b0
       try clear p4
       try clear q4
       try clear hx4
       try clear c5
       try clear c5b0
       try clear p6
       try clear c10
       try clear c13
       try clear c13b0
       try clear c14
       try clear c14b0
       try clear c15
       try clear c15b0
       try clear c16
       try clear c16b0
       try clear c20
       try clear c22
       try clear hcz11_0
       try clear hcz11_1
       try clear hcz11_2
       try clear hcz11_3
       try clear hcz12_0
       try clear hcz12_1
       try clear hcz12_2
       try clear hcz21_0
       try clear hcz21_1
       try clear hcz21_2
       try clear hcz23_0
       try clear hcz23_1
       try clear hcz23_2
       try clear hcz23_3
       try clear hcz7_0
       try clear hcz7_1
       try clear hcz7_2
       try clear hfz11_0
       try clear hfz11_1
       try clear hfz11_2
       try clear hfz11_3
       try clear hfz12_0
       try clear hfz12_1
       try clear hfz12_2
       try clear hfz21_0
       try clear hfz21_1
       try clear hfz21_2
       try clear hfz23_0
       try clear hfz23_1
       try clear hfz23_2
       try clear hfz23_3
       try clear hfz7_0
       try clear hfz7_1
       try clear hfz7_2
       try clear hx416_0
       try clear hx417_0
       try clear hx418_0
       try clear hx419_0
       try clear p2
       try clear p4
       try clear p416
       try clear p417
       try clear p418
       try clear p419
       try clear p6
       try clear q4
       try clear q416
       try clear q417
       try clear q418
       try clear q419
       obtain ⟨x11_2, x12_2, x50_2, rfl, rfl, rfl, HA, HK2, BK410, BK415, HB⟩ := hrel
       cases gk with
       | zero => exact absurd HA.out (by simp [hinterlandref02_Face.l1])
       | succ k2 =>
        have H := HA.out
        clear HA
        simp only [hinterlandref02_Face.l1] at H
        by_cases c24 : x50_2 < 4
        ·rw [if_pos c24] at H
         have c24b0 : decide (x50_2 < 4) = true := decide_eq_true c24
         clear c24
         by_cases c25 : 0 ≤ x50_2
         ·rw [if_pos c25] at H
          have c25b0 : decide (0 ≤ x50_2) = true := decide_eq_true c25
          clear c25
          by_cases c26 : 0 ≤ (rd [t411, t412, t413, t414] x50_2)
          ·rw [if_pos c26] at H
           have c26b0 : decide (0 ≤ (rd [t411, t412, t413, t414] x50_2)) = true := decide_eq_true c26
           clear c26
           by_cases c27 : (rd [t411, t412, t413, t414] x50_2) < (l0_2.length : Int)
           ·rw [if_pos c27] at H
            have c27b0 : decide ((rd [t411, t412, t413, t414] x50_2) < (l0_2.length : Int)) = true := decide_eq_true c27
            clear c27
            by_cases c28 : (rd l0_2 (rd [t411, t412, t413, t414] x50_2)) > x7_1
            ·rw [if_pos c28] at H
             have c28b0 : decide (x7_1 < (rd l0_2 (rd [t411, t412, t413, t414] x50_2))) = true := decide_eq_true c28
             clear c28
             have H' := Aside0.mk H
             clear H
             have pr29 : 0 ≤ (x50_2 : Int) := of_decide_eq_true (by first | (with_reducible assumption) | assumption)
             have qr29 : (x50_2 : Int) < 4 := of_decide_eq_true (by first | (with_reducible assumption) | assumption)
             have har29 : ∀ w_ : World, (Instr.index 66 (.agg #[.int .i64 t411, .int .i64 t412, .int .i64 t413, .int .i64 t414]) (.int .i64 x50_2)).run Try.prog w_ = .ok (.int .i64 (rd [t411, t412, t413, t414] x50_2)) w_ := fun w_ => run_arr Try.underlying66 Try.underlying3 rfl (by kernel_rfl) .i64 [t411, t412, t413, t414] rfl x50_2 pr29 qr29 w_
             have hnb30 := NB410_415.out
             have hnc30 := NB415_410.out
             have hcz31_0 : wr.cell? ⟨gb410, 0, none⟩ = some (.int .i64 a0_0) := (blk_cell BK410.out 0).trans rfl
             have hcz31_1 : wr.cell? ⟨gb410, 1, none⟩ = some (.int .i64 a0_1) := (blk_cell BK410.out 1).trans rfl
             have hcz31_2 : wr.cell? ⟨gb410, 2, none⟩ = some (.slice (some ad416) l0_2.length c0_2) := (blk_cell BK410.out 2).trans rfl
             have hfz31_0 := blk_frozen BK410.out 0
             have hfz31_1 := blk_frozen BK410.out 1
             have hfz31_2 := blk_frozen BK410.out 2
             have p420 : 0 ≤ ((rd [t411, t412, t413, t414] x50_2) : Int) := of_decide_eq_true (by first | (with_reducible assumption) | assumption)
             have q420 : (rd [t411, t412, t413, t414] x50_2) < (l0_2.length : Int) := of_decide_eq_true (by first | (with_reducible assumption) | assumption)
             obtain ⟨ad420, e420, hx420_0⟩ := Kd.at_int HR0_2.out (rd [t411, t412, t413, t414] x50_2) p420 q420
             obtain rfl : ad416 = ad420 := (by injection e420)
             replace hx420_0 := (HB.out.cell (World.block_lt_of_cell? w _ hx420_0)).trans hx420_0
             replace p420 := eq_true p420
             replace q420 := eq_true q420
             go_wp2
             repeat (go_quiet (fail); try go_wp2)
             go_roundg k2
             case measure => have := HK1.out; have := HK2.out; omega
             case rel => exact ⟨(wrap64 (x11_2 + x12_2)), (wrap64 (x12_2 * 2)), (wrap64 (x50_2 + 1)), (by first | rfl | (simp; done) | (simp [*]; done) | (refine congrArg (Value.int .i64) ?_; unfold wrap64; omega) | (simp only [shl_one_small _ (by assumption) (by omega)]; done) | (simp [*]; rw [shl_one_small _ (by assumption) (by omega)]; done)), (by first | rfl | (simp; done) | (simp [*]; done) | (refine congrArg (Value.int .i64) ?_; unfold wrap64; omega) | (simp only [shl_one_small _ (by assumption) (by omega)]; done) | (simp [*]; rw [shl_one_small _ (by assumption) (by omega)]; done)), (by first | rfl | (simp; done) | (simp [*]; done) | (refine congrArg (Value.int .i64) ?_; unfold wrap64; omega) | (simp only [shl_one_small _ (by assumption) (by omega)]; done) | (simp [*]; rw [shl_one_small _ (by assumption) (by omega)]; done)), H', ⟨by have := HK1.out; have := HK2.out; omega⟩, ⟨by (with_reducible repeat (first | refine blk_drewN ?_ _ | refine blk_drew ?_ | refine blk_alloc ?_ _)); exact BK410.out⟩, ⟨by (with_reducible repeat (first | refine blk_drewN ?_ _ | refine blk_drew ?_ | refine blk_alloc ?_ _)); exact BK415.out⟩, ⟨by repeat (first | (with_reducible first | exact HB.out | apply below_alloc | apply pw_below_drewN | apply below_drew1 | refine below_set ?_ GE410.out | refine below_set ?_ GE415.out) | exact HB.out)⟩⟩
            ·rw [if_neg c28] at H
             have c28b0 : decide (x7_1 < (rd l0_2 (rd [t411, t412, t413, t414] x50_2))) = false := decide_eq_false c28
             clear c28
             have H' := Aside0.mk H
             clear H
             have pr32 : 0 ≤ (x50_2 : Int) := of_decide_eq_true (by first | (with_reducible assumption) | assumption)
             have qr32 : (x50_2 : Int) < 4 := of_decide_eq_true (by first | (with_reducible assumption) | assumption)
             have har32 : ∀ w_ : World, (Instr.index 66 (.agg #[.int .i64 t411, .int .i64 t412, .int .i64 t413, .int .i64 t414]) (.int .i64 x50_2)).run Try.prog w_ = .ok (.int .i64 (rd [t411, t412, t413, t414] x50_2)) w_ := fun w_ => run_arr Try.underlying66 Try.underlying3 rfl (by kernel_rfl) .i64 [t411, t412, t413, t414] rfl x50_2 pr32 qr32 w_
             have hnb33 := NB410_415.out
             have hnc33 := NB415_410.out
             have hcz34_0 : wr.cell? ⟨gb410, 0, none⟩ = some (.int .i64 a0_0) := (blk_cell BK410.out 0).trans rfl
             have hcz34_1 : wr.cell? ⟨gb410, 1, none⟩ = some (.int .i64 a0_1) := (blk_cell BK410.out 1).trans rfl
             have hcz34_2 : wr.cell? ⟨gb410, 2, none⟩ = some (.slice (some ad416) l0_2.length c0_2) := (blk_cell BK410.out 2).trans rfl
             have hfz34_0 := blk_frozen BK410.out 0
             have hfz34_1 := blk_frozen BK410.out 1
             have hfz34_2 := blk_frozen BK410.out 2
             have p420 : 0 ≤ ((rd [t411, t412, t413, t414] x50_2) : Int) := of_decide_eq_true (by first | (with_reducible assumption) | assumption)
             have q420 : (rd [t411, t412, t413, t414] x50_2) < (l0_2.length : Int) := of_decide_eq_true (by first | (with_reducible assumption) | assumption)
             obtain ⟨ad420, e420, hx420_0⟩ := Kd.at_int HR0_2.out (rd [t411, t412, t413, t414] x50_2) p420 q420
             obtain rfl : ad416 = ad420 := (by injection e420)
             replace hx420_0 := (HB.out.cell (World.block_lt_of_cell? w _ hx420_0)).trans hx420_0
             replace p420 := eq_true p420
             replace q420 := eq_true q420
             go_wp2
             repeat (go_quiet (fail); try go_wp2)
             go_roundg k2
             case measure => have := HK1.out; have := HK2.out; omega
             case rel => exact ⟨(x11_2), (wrap64 (x12_2 * 2)), (wrap64 (x50_2 + 1)), (by first | rfl | (simp; done) | (simp [*]; done) | (refine congrArg (Value.int .i64) ?_; unfold wrap64; omega) | (simp only [shl_one_small _ (by assumption) (by omega)]; done) | (simp [*]; rw [shl_one_small _ (by assumption) (by omega)]; done)), (by first | rfl | (simp; done) | (simp [*]; done) | (refine congrArg (Value.int .i64) ?_; unfold wrap64; omega) | (simp only [shl_one_small _ (by assumption) (by omega)]; done) | (simp [*]; rw [shl_one_small _ (by assumption) (by omega)]; done)), (by first | rfl | (simp; done) | (simp [*]; done) | (refine congrArg (Value.int .i64) ?_; unfold wrap64; omega) | (simp only [shl_one_small _ (by assumption) (by omega)]; done) | (simp [*]; rw [shl_one_small _ (by assumption) (by omega)]; done)), H', ⟨by have := HK1.out; have := HK2.out; omega⟩, ⟨by (with_reducible repeat (first | refine blk_drewN ?_ _ | refine blk_drew ?_ | refine blk_alloc ?_ _)); exact BK410.out⟩, ⟨by (with_reducible repeat (first | refine blk_drewN ?_ _ | refine blk_drew ?_ | refine blk_alloc ?_ _)); exact BK415.out⟩, ⟨by repeat (first | (with_reducible first | exact HB.out | apply below_alloc | apply pw_below_drewN | apply below_drew1 | refine below_set ?_ GE410.out | refine below_set ?_ GE415.out) | exact HB.out)⟩⟩
           ·rw [if_neg c27] at H
            exact absurd H (by simp)
          ·rw [if_neg c26] at H
           exact absurd H (by simp)
         ·rw [if_neg c25] at H
          exact absurd H (by simp)
        ·rw [if_neg c24] at H
         have c24b0 : decide (x50_2 < 4) = false := decide_eq_false c24
         clear c24
         by_cases c35 : (wrap64 (x8_1 - x7_1)) = 2
         ·rw [if_pos c35] at H
          have c35b0 : ((wrap64 (x8_1 - x7_1)) == 2) = true := beq_iff_eq.mpr c35
          have c35b1 : ((wrap64 (x8_1 - x7_1)) != 2) = false := bne_eq_false_iff_eq.mpr c35
          clear c35
          simp only [Option.some.injEq, Prod.mk.injEq] at H
          obtain ⟨rfl, rfl⟩ := H
          go_wp2
          repeat (go_quiet (fail); try go_wp2)
          go_ret2
          exact ⟨by first | rfl | (simp [errW_none, errW_some] <;> rfl) | (simp [*, errW_none, errW_some] <;> rfl), by repeat (first | (with_reducible first | exact HB.out | apply below_alloc | apply pw_below_drewN | apply below_drew1 | refine below_set ?_ GE410.out | refine below_set ?_ GE415.out) | exact HB.out)⟩
         ·rw [if_neg c35] at H
          have c35b0 : ((wrap64 (x8_1 - x7_1)) == 2) = false := beq_eq_false_iff_ne.mpr c35
          have c35b1 : ((wrap64 (x8_1 - x7_1)) != 2) = true := bne_iff_ne.mpr c35
          simp only [Option.some.injEq, Prod.mk.injEq] at H
          obtain ⟨rfl, rfl⟩ := H
          go_wp2
          repeat (go_quiet (fail); try go_wp2)
          go_ret2
          exact ⟨by first | rfl | (simp [errW_none, errW_some] <;> rfl) | (simp [*, errW_none, errW_some] <;> rfl), by repeat (first | (with_reducible first | exact HB.out | apply below_alloc | apply pw_below_drewN | apply below_drew1 | refine below_set ?_ GE410.out | refine below_set ?_ GE415.out) | exact HB.out)⟩
  ·rw [if_neg c5] at H
   exact absurd H (by simp)
 ·rw [if_neg c4] at H
  exact absurd H (by simp)

end Go.Proofs.Ytchflcnegpnkkaa.Q
