-- PRINTED by print.py (a twelfth state) out of the translation. Not trusted: Lean checks it.
import Derived.Test.YtmgccgiomnkbmaaQ0
import Derived.Test.YtmgccgiomnkbmaaQ2
import Derived.Test.YtmgccgiomnkbmaaQ7
import Derived.Test.YtmgccgiomnkbmaaQ36
import Derived.Test.YtmgccgiomnkbmaaQ38
import Derived.Test.YtmgccgiomnkbmaaQ39
namespace Go.Proofs.Ytmgccgiomnkbmaa.Q
open Go.RowKit Go.Proofs.YtmgccgiomnkbmaaOwn Go.Proofs.YtmgccgiomnkbmaaW.PrintWords Go.Proofs.YtmgccgiomnkbmaaW.PrintLast Go.Proofs.YtmgccgiomnkbmaaW.PrintMore
attribute [local go_sem] max2_int min2_int max_two min_two max_three min_three max_four min_four   -- for this text's walks alone
set_option linter.unusedVariables false
set_option linter.unusedSimpArgs false

attribute [local go_sem high] eqA31
/-! ### hinterlandlaw01_RollShuffles: function 12 -/
mutual
def hinterlandlaw01_RollShuffles.j0 : Nat → List Int → Bool → Option (Bool)
  | 0, _, _ => none
  | k + 1, x8, x40 => if x40 = true then (some false) else (if 0 ≤ (x8.length : Int) then (if ((x8.length : Int) : Int).toNat ≤ 281474976710656 then (hinterlandlaw01_RollShuffles.l0 k x8 (List.replicate ((x8.length : Int) : Int).toNat false) 0) else (none)) else (none))
def hinterlandlaw01_RollShuffles.l0 : Nat → List Int → List Bool → Int → Option (Bool)
  | 0, _, _, _ => none
  | k + 1, x8, x11, x12 => if x12 < (x8.length : Int) then (if 0 ≤ x12 then (if (rd x8 x12) < 0 then (some false) else (if (rd x8 x12) ≥ (x8.length : Int) then (some false) else (if 0 ≤ (rd x8 x12) then (if (rd x8 x12) < (x11.length : Int) then (if rdOf false x11 (rd x8 x12) = true then (some false) else (hinterlandlaw01_RollShuffles.l0 k x8 (x11.set ((rd x8 x12) : Int).toNat true) (wrap64 (x12 + 1)))) else (none)) else (none)))) else (none)) else ((hinterlandlaw01_known.f k).bind fun t374 => (some t374))
end
def hinterlandlaw01_RollShuffles.f (k : Nat) (a0_0 : Int) (a1 : Int) : Option (Bool) := (hinterlandref01_Shuffle.f k a0_0 a1).bind fun bt352 => ((roll_Shuffle.f k a0_0 a1).bind fun bt358 => (if bt358.2.2 = bt352.2.2 then (if (!(bt358.2.1 == bt352.2.1)) = true then (hinterlandlaw01_RollShuffles.j0 k bt358.1 true) else ((hinterlandsame_List_int.f k bt358.1 bt352.1).bind fun t364 => (hinterlandlaw01_RollShuffles.j0 k bt358.1 (!t364)))) else (hinterlandlaw01_RollShuffles.j0 k bt358.1 true)))
theorem hinterlandlaw01_RollShuffles.mono_l : ∀ k, (∀ y0 y1, LeO (hinterlandlaw01_RollShuffles.j0 k y0 y1) (hinterlandlaw01_RollShuffles.j0 (k + 1) y0 y1)) ∧ (∀ y0 y1 y2, LeO (hinterlandlaw01_RollShuffles.l0 k y0 y1 y2) (hinterlandlaw01_RollShuffles.l0 (k + 1) y0 y1 y2))
  | 0 => ⟨fun _ _ r h => by simp [hinterlandlaw01_RollShuffles.j0] at h, fun _ _ _ r h => by simp [hinterlandlaw01_RollShuffles.l0] at h⟩
  | k + 1 => by
    obtain ⟨ih0, ih1⟩ := hinterlandlaw01_RollShuffles.mono_l k
    refine ⟨?_, ?_⟩
    · intro y0 y1
      unfold hinterlandlaw01_RollShuffles.j0
      repeat' first
      | (with_reducible exact ih0 _ _)
      | (with_reducible exact ih1 _ _ _)
      | (with_reducible exact hinterlandlaw01_known.mono _)
      | (with_reducible exact hinterlandref01_Shuffle.mono _ _ _)
      | (with_reducible exact hinterlandsame_List_int.mono _ _ _)
      | (with_reducible exact roll_Shuffle.mono _ _ _)
      | (with_reducible exact LeO.refl _)
      | (with_reducible exact LeO.none _)
      | (with_reducible refine LeO.ite ?_ ?_)
      | (with_reducible refine LeO.bind ?_ (fun _ => ?_))
      | exact ih0 _ _
      | exact ih1 _ _ _
      | exact hinterlandlaw01_known.mono _
      | exact hinterlandref01_Shuffle.mono _ _ _
      | exact hinterlandsame_List_int.mono _ _ _
      | exact roll_Shuffle.mono _ _ _
      | exact LeO.none _
      | refine LeO.ite ?_ ?_
      | refine LeO.bind ?_ (fun _ => ?_)
    · intro y0 y1 y2
      unfold hinterlandlaw01_RollShuffles.l0
      repeat' first
      | (with_reducible exact ih0 _ _)
      | (with_reducible exact ih1 _ _ _)
      | (with_reducible exact hinterlandlaw01_known.mono _)
      | (with_reducible exact hinterlandref01_Shuffle.mono _ _ _)
      | (with_reducible exact hinterlandsame_List_int.mono _ _ _)
      | (with_reducible exact roll_Shuffle.mono _ _ _)
      | (with_reducible exact LeO.refl _)
      | (with_reducible exact LeO.none _)
      | (with_reducible refine LeO.ite ?_ ?_)
      | (with_reducible refine LeO.bind ?_ (fun _ => ?_))
      | exact ih0 _ _
      | exact ih1 _ _ _
      | exact hinterlandlaw01_known.mono _
      | exact hinterlandref01_Shuffle.mono _ _ _
      | exact hinterlandsame_List_int.mono _ _ _
      | exact roll_Shuffle.mono _ _ _
      | exact LeO.none _
      | refine LeO.ite ?_ ?_
      | refine LeO.bind ?_ (fun _ => ?_)
theorem hinterlandlaw01_RollShuffles.mono : ∀ a0 a1 k, LeO (hinterlandlaw01_RollShuffles.f k a0 a1) (hinterlandlaw01_RollShuffles.f (k + 1) a0 a1) := by
  intro a0 a1 k
  obtain ⟨ih0, ih1⟩ := hinterlandlaw01_RollShuffles.mono_l k
  unfold hinterlandlaw01_RollShuffles.f
  repeat' first
      | (with_reducible exact ih0 _ _)
      | (with_reducible exact ih1 _ _ _)
      | (with_reducible exact hinterlandlaw01_known.mono _)
      | (with_reducible exact hinterlandref01_Shuffle.mono _ _ _)
      | (with_reducible exact hinterlandsame_List_int.mono _ _ _)
      | (with_reducible exact roll_Shuffle.mono _ _ _)
      | (with_reducible exact LeO.refl _)
      | (with_reducible exact LeO.none _)
      | (with_reducible refine LeO.ite ?_ ?_)
      | (with_reducible refine LeO.bind ?_ (fun _ => ?_))
      | exact ih0 _ _
      | exact ih1 _ _ _
      | exact hinterlandlaw01_known.mono _
      | exact hinterlandref01_Shuffle.mono _ _ _
      | exact hinterlandsame_List_int.mono _ _ _
      | exact roll_Shuffle.mono _ _ _
      | exact LeO.none _
      | refine LeO.ite ?_ ?_
      | refine LeO.bind ?_ (fun _ => ?_)
set_option maxHeartbeats 8000000 in
set_option maxRecDepth 100000 in
theorem hinterlandlaw01_RollShuffles.calls (k : Nat) (a0_0 : Int) (a1 : Int) (r : Bool) (w : World) (h : hinterlandlaw01_RollShuffles.f k a0_0 a1 = some r) :
    Calls Try.prog 12 #[.agg #[.int .u64 a0_0], .int .i64 a1] w fun e w' => e = .returned (.bool r) ∧ Below w.heap.size w w' := by
 have hu31 := Try.underlying31
 have HB := Aside0.mk (Below.refl w.heap.size w)
 have H : ((hinterlandref01_Shuffle.f k a0_0 a1).bind fun bt352 => ((roll_Shuffle.f k a0_0 a1).bind fun bt358 => (if bt358.2.2 = bt352.2.2 then (if (!(bt358.2.1 == bt352.2.1)) = true then (hinterlandlaw01_RollShuffles.j0 k bt358.1 true) else ((hinterlandsame_List_int.f k bt358.1 bt352.1).bind fun t364 => (hinterlandlaw01_RollShuffles.j0 k bt358.1 (!t364)))) else (hinterlandlaw01_RollShuffles.j0 k bt358.1 true)))) = some r := h
 clear h
 replace H := Option.bind_eq_some_iff.mp H
 obtain ⟨⟨t352, t355, t356⟩, A30, H⟩ := H
 replace H : ((roll_Shuffle.f k a0_0 a1).bind fun bt358 => (if bt358.2.2 = t356 then (if (!(bt358.2.1 == t355)) = true then (hinterlandlaw01_RollShuffles.j0 k bt358.1 true) else ((hinterlandsame_List_int.f k bt358.1 t352).bind fun t364 => (hinterlandlaw01_RollShuffles.j0 k bt358.1 (!t364)))) else (hinterlandlaw01_RollShuffles.j0 k bt358.1 true))) = some r := H
 have A3 := Aside0.mk A30
 clear A30
 replace H := Option.bind_eq_some_iff.mp H
 obtain ⟨⟨t358, t361, t362⟩, A40, H⟩ := H
 replace H : (if t362 = t356 then (if (!(t361 == t355)) = true then (hinterlandlaw01_RollShuffles.j0 k t358 true) else ((hinterlandsame_List_int.f k t358 t352).bind fun t364 => (hinterlandlaw01_RollShuffles.j0 k t358 (!t364)))) else (hinterlandlaw01_RollShuffles.j0 k t358 true)) = some r := H
 have A4 := Aside0.mk A40
 clear A40
 have HC5 := Aside0.mk H
 clear H
 go_enter Try.func12, Try.ntmps12
 go_upto_region 3 with (first | ((with_reducible refine gate_dst (N := 2) rfl ?_); (try (refine gate_guard (by rfl) ?_; dsimp only)); refine box_event ?hg (N := 2) ?hd (cs := #[.int .u64 a0_0]) (t := 31) ?hr ?_; (case hd => rfl); (case hg => rfl); (case hr => first | (go_simp; done) | (go_simp; rfl)); intro gb351 hg w6 hbox hb; have n0_ := Aside0.mk (below_step (by repeat (first | (with_reducible first | exact HB.out | apply below_alloc | apply pw_below_drewN | apply below_drew1) | exact HB.out)) hb); have n1_ := Aside0.mk (hbox); have n2_ := Aside0.mk ((by rw [hg]; exact (below_size (by repeat (first | (with_reducible first | exact HB.out | apply below_alloc | apply pw_below_drewN | apply below_drew1) | exact HB.out))) : w.heap.size ≤ gb351)); have n3_ := Aside0.mk ((by rw [hg]; exact (below_size (by repeat (first | (with_reducible first | exact HB.out | apply below_alloc | apply pw_below_drewN | apply below_drew1) | exact HB.out))) : w.heap.size ≤ gb351)); clear HB; have HB := n0_; have BK351 := n1_; have GW351 := n2_; have GE351 := n3_; clear n0_ n1_ n2_ n3_; clear hb hbox hg; have hcz7_0 : w6.cell? ⟨gb351, 0, none⟩ = some (.int .u64 a0_0) := (blk_cell BK351.out 0).trans rfl; have hfz7_0 := blk_frozen BK351.out 0) | ((with_reducible refine gate_callee (f := 32) rfl ?_); refine goesL_ (some 16) rfl rfl Try.func32 (by kernel_rfl) rfl #[.agg #[.int .u64 a0_0], .int .i64 a1] rfl (by (try simp only [List.map_toArray, List.map_cons, List.map_nil]); first | done | rfl | (simp only [List.length_drop, List.length_take]; rfl)) ?_; (with_reducible refine (hinterlandref01_Shuffle.calls k a0_0 a1 t352 t355 t356 _ A3.out).mono ?_); rintro e w8 ⟨v353, rfl, ho0, hb⟩; refine ⟨_, rfl, ?_⟩; have n0_ := Aside0.mk (Kd.R_lower ho0 (below_size (by repeat (first | (with_reducible first | exact HB.out | apply below_alloc | apply pw_below_drewN | apply below_drew1 | refine below_set ?_ GE351.out) | exact HB.out)))); have n1_ := Aside0.mk (blk_below (g := gb351) (o := .cells #[.int .u64 a0_0] 31 (0, 0)) (by (with_reducible repeat (first | refine blk_drewN ?_ _ | refine blk_drew ?_ | refine blk_alloc ?_ _)); exact BK351.out) hb); have n2_ := Aside0.mk (below_step (by repeat (first | (with_reducible first | exact HB.out | apply below_alloc | apply pw_below_drewN | apply below_drew1 | refine below_set ?_ GE351.out) | exact HB.out)) hb); clear BK351; clear HB; have HO354 := n0_; have BK351 := n1_; have HB := n2_; clear n0_ n1_ n2_; (try clear hb); (try clear hb2); (try clear hk); (try clear hi); (try clear ho0)) | ((with_reducible refine gate_dst (N := 6) rfl ?_); (try (refine gate_guard (by rfl) ?_; dsimp only)); refine box_event ?hg (N := 6) ?hd (cs := #[.int .u64 0]) (t := 31) ?hr ?_; (case hd => rfl); (case hg => rfl); (case hr => first | (go_simp; done) | (go_simp; rfl)); intro gb357 hg w9 hbox hb; have n0_ := Aside0.mk (Kd.R_below (by (with_reducible repeat (first | apply Kd.R_alloc | apply Kd.R_drewN | apply Kd.R_drew)); exact HO354.out) hb); have n1_ := Aside0.mk (blk_below (g := gb351) (o := .cells #[.int .u64 a0_0] 31 (0, 0)) (by (with_reducible repeat (first | refine blk_drewN ?_ _ | refine blk_drew ?_ | refine blk_alloc ?_ _)); exact BK351.out) hb); have n2_ := Aside0.mk (below_step (by repeat (first | (with_reducible first | exact HB.out | apply below_alloc | apply pw_below_drewN | apply below_drew1 | refine below_set ?_ GE351.out) | exact HB.out)) hb); have n3_ := Aside0.mk (hbox); have n4_ := Aside0.mk ((by rw [hg]; exact (below_size (by repeat (first | (with_reducible first | exact HB.out | apply below_alloc | apply pw_below_drewN | apply below_drew1 | refine below_set ?_ GE351.out) | exact HB.out))) : w.heap.size ≤ gb357)); have n5_ := Aside0.mk ((by rw [hg]; exact (below_size (by repeat (first | (with_reducible first | exact HB.out | apply below_alloc | apply pw_below_drewN | apply below_drew1 | refine below_set ?_ GE351.out) | exact HB.out))) : w.heap.size ≤ gb357)); have n6_ := Aside0.mk ((by rw [hg]; exact Nat.ne_of_lt (blk_lt (g := gb351) (o := .cells #[.int .u64 a0_0] 31 (0, 0)) (by (with_reducible repeat (first | refine blk_drewN ?_ _ | refine blk_drew ?_ | refine blk_alloc ?_ _)); exact BK351.out)) : gb351 ≠ gb357)); have n7_ := Aside0.mk ((by rw [hg]; exact Nat.ne_of_gt (blk_lt (g := gb351) (o := .cells #[.int .u64 a0_0] 31 (0, 0)) (by (with_reducible repeat (first | refine blk_drewN ?_ _ | refine blk_drew ?_ | refine blk_alloc ?_ _)); exact BK351.out)) : gb357 ≠ gb351)); clear HO354; clear BK351; clear HB; have HO354 := n0_; have BK351 := n1_; have HB := n2_; have BK357 := n3_; have GW357 := n4_; have GE357 := n5_; have NB351_357 := n6_; have NB357_351 := n7_; clear n0_ n1_ n2_ n3_ n4_ n5_ n6_ n7_; clear hb hbox hg; have hnb10 := NB357_351.out; have hnc10 := NB351_357.out; have hcz11_0 : w9.cell? ⟨gb357, 0, none⟩ = some (.int .u64 0) := (blk_cell BK357.out 0).trans rfl; have hfz11_0 := blk_frozen BK357.out 0; have hcz12_0 : w9.cell? ⟨gb351, 0, none⟩ = some (.int .u64 a0_0) := (blk_cell BK351.out 0).trans rfl; have hfz12_0 := blk_frozen BK351.out 0) | ((with_reducible refine gate_callee (f := 33) rfl ?_); refine goesL_ (some 23) rfl rfl Try.func33 (by kernel_rfl) rfl #[.agg #[.int .u64 a0_0], .int .i64 a1] rfl (by (try simp only [List.map_toArray, List.map_cons, List.map_nil]); first | done | rfl | (simp only [List.length_drop, List.length_take]; rfl)) ?_; (with_reducible refine (roll_Shuffle.calls k a0_0 a1 t358 t361 t362 _ A4.out).mono ?_); rintro e w13 ⟨v359, rfl, ho0, hb⟩; refine ⟨_, rfl, ?_⟩; have n0_ := Aside0.mk (Kd.R_elder' (by (with_reducible repeat (first | apply Kd.R_alloc | apply Kd.R_drewN | apply Kd.R_drew)); exact (Kd.R_mono (Kd.R_far (p := ⟨gb357, 0, none⟩) (Kd.R_types HO354.out BK357.out (by decide)) (fun _ hk => hk.2) (.int .u64 t355)) (fun _ h_ => h_.1))) (Kd.R_base ho0) hb); have n1_ := Aside0.mk (Kd.R_lower (Kd.R_new' ho0 (Kd.R_lt (by (with_reducible repeat (first | apply Kd.R_alloc | apply Kd.R_drewN | apply Kd.R_drew)); exact (Kd.R_mono (Kd.R_far (p := ⟨gb357, 0, none⟩) (Kd.R_types HO354.out BK357.out (by decide)) (fun _ hk => hk.2) (.int .u64 t355)) (fun _ h_ => h_.1))))) (below_size (by repeat (first | (with_reducible first | exact HB.out | apply below_alloc | apply pw_below_drewN | apply below_drew1 | refine below_set ?_ GE351.out | refine below_set ?_ GE357.out) | exact HB.out)))); have n2_ := Aside0.mk (blk_below (g := gb351) (o := .cells #[.int .u64 a0_0] 31 (0, 0)) (by (with_reducible repeat (first | refine blk_drewN ?_ _ | refine blk_drew ?_ | refine blk_alloc ?_ _)); refine blk_far ?_ NB351_357.out _; (with_reducible repeat (first | refine blk_drewN ?_ _ | refine blk_drew ?_ | refine blk_alloc ?_ _)); exact BK351.out) hb); have n3_ := Aside0.mk (blk_below (g := gb357) (o := .cells #[.int .u64 t355] 31 (0, 0)) (by (with_reducible repeat (first | refine blk_drewN ?_ _ | refine blk_drew ?_ | refine blk_alloc ?_ _)); refine blk_put (cs := #[.int .u64 0]) ?_ 0 _ rfl; (with_reducible repeat (first | refine blk_drewN ?_ _ | refine blk_drew ?_ | refine blk_alloc ?_ _)); exact BK357.out) hb); have n4_ := Aside0.mk (below_step (by repeat (first | (with_reducible first | exact HB.out | apply below_alloc | apply pw_below_drewN | apply below_drew1 | refine below_set ?_ GE351.out | refine below_set ?_ GE357.out) | exact HB.out)) hb); clear HO354; clear BK351; clear BK357; clear HB; have HO354 := n0_; have HO360 := n1_; have BK351 := n2_; have BK357 := n3_; have HB := n4_; clear n0_ n1_ n2_ n3_ n4_; (try clear hb); (try clear hb2); (try clear hk); (try clear hi); (try clear ho0)) | ((with_reducible refine gate_dst (N := 9) rfl ?_); (try (refine gate_guard (by rfl) ?_; dsimp only)); refine box_event ?hg (N := 9) ?hd (cs := #[.int .u64 0]) (t := 31) ?hr ?_; (case hd => rfl); (case hg => rfl); (case hr => first | (go_simp; done) | (go_simp; rfl)); intro gb363 hg w14 hbox hb; have n0_ := Aside0.mk (Kd.R_below (by (with_reducible repeat (first | apply Kd.R_alloc | apply Kd.R_drewN | apply Kd.R_drew)); exact HO354.out) hb); have n1_ := Aside0.mk (Kd.R_below (by (with_reducible repeat (first | apply Kd.R_alloc | apply Kd.R_drewN | apply Kd.R_drew)); exact HO360.out) hb); have n2_ := Aside0.mk (blk_below (g := gb351) (o := .cells #[.int .u64 a0_0] 31 (0, 0)) (by (with_reducible repeat (first | refine blk_drewN ?_ _ | refine blk_drew ?_ | refine blk_alloc ?_ _)); exact BK351.out) hb); have n3_ := Aside0.mk (blk_below (g := gb357) (o := .cells #[.int .u64 t355] 31 (0, 0)) (by (with_reducible repeat (first | refine blk_drewN ?_ _ | refine blk_drew ?_ | refine blk_alloc ?_ _)); exact BK357.out) hb); have n4_ := Aside0.mk (below_step (by repeat (first | (with_reducible first | exact HB.out | apply below_alloc | apply pw_below_drewN | apply below_drew1 | refine below_set ?_ GE351.out | refine below_set ?_ GE357.out) | exact HB.out)) hb); have n5_ := Aside0.mk (hbox); have n6_ := Aside0.mk ((by rw [hg]; exact (below_size (by repeat (first | (with_reducible first | exact HB.out | apply below_alloc | apply pw_below_drewN | apply below_drew1 | refine below_set ?_ GE351.out | refine below_set ?_ GE357.out) | exact HB.out))) : w.heap.size ≤ gb363)); have n7_ := Aside0.mk ((by rw [hg]; exact (below_size (by repeat (first | (with_reducible first | exact HB.out | apply below_alloc | apply pw_below_drewN | apply below_drew1 | refine below_set ?_ GE351.out | refine below_set ?_ GE357.out) | exact HB.out))) : w.heap.size ≤ gb363)); have n8_ := Aside0.mk ((by rw [hg]; exact Nat.ne_of_lt (blk_lt (g := gb351) (o := .cells #[.int .u64 a0_0] 31 (0, 0)) (by (with_reducible repeat (first | refine blk_drewN ?_ _ | refine blk_drew ?_ | refine blk_alloc ?_ _)); exact BK351.out)) : gb351 ≠ gb363)); have n9_ := Aside0.mk ((by rw [hg]; exact Nat.ne_of_gt (blk_lt (g := gb351) (o := .cells #[.int .u64 a0_0] 31 (0, 0)) (by (with_reducible repeat (first | refine blk_drewN ?_ _ | refine blk_drew ?_ | refine blk_alloc ?_ _)); exact BK351.out)) : gb363 ≠ gb351)); have n10_ := Aside0.mk ((by rw [hg]; exact Nat.ne_of_lt (blk_lt (g := gb357) (o := .cells #[.int .u64 t355] 31 (0, 0)) (by (with_reducible repeat (first | refine blk_drewN ?_ _ | refine blk_drew ?_ | refine blk_alloc ?_ _)); exact BK357.out)) : gb357 ≠ gb363)); have n11_ := Aside0.mk ((by rw [hg]; exact Nat.ne_of_gt (blk_lt (g := gb357) (o := .cells #[.int .u64 t355] 31 (0, 0)) (by (with_reducible repeat (first | refine blk_drewN ?_ _ | refine blk_drew ?_ | refine blk_alloc ?_ _)); exact BK357.out)) : gb363 ≠ gb357)); clear HO354; clear HO360; clear BK351; clear BK357; clear HB; have HO354 := n0_; have HO360 := n1_; have BK351 := n2_; have BK357 := n3_; have HB := n4_; have BK363 := n5_; have GW363 := n6_; have GE363 := n7_; have NB351_363 := n8_; have NB363_351 := n9_; have NB357_363 := n10_; have NB363_357 := n11_; clear n0_ n1_ n2_ n3_ n4_ n5_ n6_ n7_ n8_ n9_ n10_ n11_; clear hb hbox hg; have hnb15 := NB363_351.out; have hnc15 := NB351_363.out; have hnb16 := NB363_357.out; have hnc16 := NB357_363.out; have hcz17_0 : w14.cell? ⟨gb363, 0, none⟩ = some (.int .u64 0) := (blk_cell BK363.out 0).trans rfl; have hfz17_0 := blk_frozen BK363.out 0))
 (try simp only [Act.put, List.setIfInBounds_toArray, List.set_cons_zero, List.set_cons_succ])
 go_cut [40] (fun v40 wc => ∃ (kq : Nat) (x40_4 : Bool), v40 = .bool x40_4 ∧ Aside0 (hinterlandlaw01_RollShuffles.j0 kq t358 x40_4 = some r) ∧ Aside0 (kq ≤ k) ∧ Aside0 (Kd.R (Kd.int .i64) 3 wc w.heap.size (fun _ => True) v359 t358) ∧ Aside0 (wc.heap[gb351]? = some (.cells #[.int .u64 a0_0] 31 (0, 0))) ∧ Aside0 (wc.heap[gb357]? = some (.cells #[.int .u64 t355] 31 (0, 0))) ∧ Aside0 (wc.heap[gb363]? = some (.cells #[.int .u64 t361] 31 (0, 0))) ∧ Aside0 (Below w.heap.size w wc))
 case first =>
  have H := HC5.out
  clear HC5
  by_cases c18 : t362 = t356
  ·rw [if_pos c18] at H
   have c18b0 : (t362 == t356) = true := beq_iff_eq.mpr c18
   have c18b1 : (t362 != t356) = false := bne_eq_false_iff_eq.mpr c18
   clear c18
   (first | rw [c18b0] | (simp only [i64_w, i32_w]; rw [c18b0]) | skip)
   by_cases c19 : (!(t361 == t355)) = true
   ·rw [if_pos c19] at H
    have c19b0 : (!(t361 == t355)) = true := c19
    clear c19
    have H' := Aside0.mk H
    clear H
    have hnb20 := NB363_351.out
    have hnc20 := NB351_363.out
    have hnb21 := NB363_357.out
    have hnc21 := NB357_363.out
    have hcz22_0 : w14.cell? ⟨gb363, 0, none⟩ = some (.int .u64 0) := (blk_cell BK363.out 0).trans rfl
    have hfz22_0 := blk_frozen BK363.out 0
    have hnb23 := NB357_351.out
    have hnc23 := NB351_357.out
    have hcz24_0 : w14.cell? ⟨gb357, 0, none⟩ = some (.int .u64 t355) := (blk_cell BK357.out 0).trans rfl
    have hfz24_0 := blk_frozen BK357.out 0
    go_wp2
    go_meet
    case rel => exact ⟨_, (true), (by first | rfl | (simp; done) | (simp [*]; done) | (refine congrArg (Value.int .i64) ?_; unfold wrap64; omega) | (simp only [shl_one_small _ (by assumption) (by omega)]; done) | (simp [*]; rw [shl_one_small _ (by assumption) (by omega)]; done)), H', ⟨by first | omega | exact Nat.le_refl _⟩, ⟨by (with_reducible repeat (first | apply Kd.R_alloc | apply Kd.R_drewN | apply Kd.R_drew)); exact Kd.R_mono (Kd.R_far (p := ⟨gb363, 0, none⟩) (Kd.R_types HO360.out BK363.out (by decide)) (fun _ hk => hk.2) (.int .u64 t361)) (fun _ hk => trivial)⟩, ⟨by (with_reducible repeat (first | refine blk_drewN ?_ _ | refine blk_drew ?_ | refine blk_alloc ?_ _)); refine blk_far ?_ NB351_363.out _; (with_reducible repeat (first | refine blk_drewN ?_ _ | refine blk_drew ?_ | refine blk_alloc ?_ _)); exact BK351.out⟩, ⟨by (with_reducible repeat (first | refine blk_drewN ?_ _ | refine blk_drew ?_ | refine blk_alloc ?_ _)); refine blk_far ?_ NB357_363.out _; (with_reducible repeat (first | refine blk_drewN ?_ _ | refine blk_drew ?_ | refine blk_alloc ?_ _)); exact BK357.out⟩, ⟨by (with_reducible repeat (first | refine blk_drewN ?_ _ | refine blk_drew ?_ | refine blk_alloc ?_ _)); refine blk_put (cs := #[.int .u64 0]) ?_ 0 _ rfl; (with_reducible repeat (first | refine blk_drewN ?_ _ | refine blk_drew ?_ | refine blk_alloc ?_ _)); exact BK363.out⟩, ⟨by repeat (first | (with_reducible first | exact HB.out | apply below_alloc | apply pw_below_drewN | apply below_drew1 | refine below_set ?_ GE351.out | refine below_set ?_ GE357.out | refine below_set ?_ GE363.out) | exact HB.out)⟩⟩
   ·rw [if_neg c19] at H
    have c19b0 : (!(t361 == t355)) = false := by simpa using c19
    clear c19
    replace H := Option.bind_eq_some_iff.mp H
    obtain ⟨t364, A250, H⟩ := H
    replace H : (hinterlandlaw01_RollShuffles.j0 k t358 (!t364)) = some r := H
    have A25 := Aside0.mk A250
    clear A250
    have H' := Aside0.mk H
    clear H
    have hnb26 := NB363_351.out
    have hnc26 := NB351_363.out
    have hnb27 := NB363_357.out
    have hnc27 := NB357_363.out
    have hcz28_0 : w14.cell? ⟨gb363, 0, none⟩ = some (.int .u64 0) := (blk_cell BK363.out 0).trans rfl
    have hfz28_0 := blk_frozen BK363.out 0
    have hnb29 := NB357_351.out
    have hnc29 := NB351_357.out
    have hcz30_0 : w14.cell? ⟨gb357, 0, none⟩ = some (.int .u64 t355) := (blk_cell BK357.out 0).trans rfl
    have hfz30_0 := blk_frozen BK357.out 0
    obtain ⟨Ao31, co31, eo31⟩ := Kd.R_slice HO360.out
    subst eo31
    obtain ⟨Ao32, co32, eo32⟩ := Kd.R_slice HO354.out
    subst eo32
    go_wp2_with (first | (go_at_call 34; (with_reducible refine (hinterlandsame_List_int.calls k _ _ t358 _ _ t352 t364 _ ?side1 ?side2 ?side3 ?side4 A25.out).mono ?_); (case side1 => refine (Kd.R_reads' (e := 3) (base := w.heap.size) (ok := fun k_ => (True ∧ some k_ ≠ (.slice Ao32 t352.length co32 : Value).ownBlock)) (n := t358.length) (c := co31) ?_).2.2; exact (by (with_reducible repeat (first | apply Kd.R_alloc | apply Kd.R_drewN | apply Kd.R_drew)); exact (Kd.R_mono (Kd.R_far (p := ⟨gb363, 0, none⟩) (Kd.R_types HO360.out BK363.out (by decide)) (fun _ hk => hk.2) (.int .u64 t361)) (fun _ h_ => h_.1)))); (case side2 => exact (Kd.R_reads' HO360.out).2.1); (case side3 => refine (Kd.R_reads' (e := 3) (base := w.heap.size) (ok := fun k_ => (True ∧ some k_ ≠ (.slice Ao31 t358.length co31 : Value).ownBlock)) (n := t352.length) (c := co32) ?_).2.2; exact (by (with_reducible repeat (first | apply Kd.R_alloc | apply Kd.R_drewN | apply Kd.R_drew)); exact (Kd.R_mono (Kd.R_far (p := ⟨gb363, 0, none⟩) (Kd.R_types HO354.out BK363.out (by decide)) (fun _ hk => hk.2) (.int .u64 t361)) (fun _ h_ => h_.1)))); (case side4 => exact (Kd.R_reads' HO354.out).2.1); rintro e w' ⟨rfl, ⟨nd, rfl⟩⟩))
    go_meet
    case rel => exact ⟨_, (!t364), (by first | rfl | (simp; done) | (simp [*]; done) | (refine congrArg (Value.int .i64) ?_; unfold wrap64; omega) | (simp only [shl_one_small _ (by assumption) (by omega)]; done) | (simp [*]; rw [shl_one_small _ (by assumption) (by omega)]; done)), H', ⟨by first | omega | exact Nat.le_refl _⟩, ⟨by (with_reducible repeat (first | apply Kd.R_alloc | apply Kd.R_drewN | apply Kd.R_drew)); exact Kd.R_mono (Kd.R_far (p := ⟨gb363, 0, none⟩) (Kd.R_types HO360.out BK363.out (by decide)) (fun _ hk => hk.2) (.int .u64 t361)) (fun _ hk => trivial)⟩, ⟨by (with_reducible repeat (first | refine blk_drewN ?_ _ | refine blk_drew ?_ | refine blk_alloc ?_ _)); refine blk_far ?_ NB351_363.out _; (with_reducible repeat (first | refine blk_drewN ?_ _ | refine blk_drew ?_ | refine blk_alloc ?_ _)); exact BK351.out⟩, ⟨by (with_reducible repeat (first | refine blk_drewN ?_ _ | refine blk_drew ?_ | refine blk_alloc ?_ _)); refine blk_far ?_ NB357_363.out _; (with_reducible repeat (first | refine blk_drewN ?_ _ | refine blk_drew ?_ | refine blk_alloc ?_ _)); exact BK357.out⟩, ⟨by (with_reducible repeat (first | refine blk_drewN ?_ _ | refine blk_drew ?_ | refine blk_alloc ?_ _)); refine blk_put (cs := #[.int .u64 0]) ?_ 0 _ rfl; (with_reducible repeat (first | refine blk_drewN ?_ _ | refine blk_drew ?_ | refine blk_alloc ?_ _)); exact BK363.out⟩, ⟨by repeat (first | (with_reducible first | exact HB.out | apply below_alloc | apply pw_below_drewN | apply below_drew1 | refine below_set ?_ GE351.out | refine below_set ?_ GE357.out | refine below_set ?_ GE363.out) | exact HB.out)⟩⟩
  ·rw [if_neg c18] at H
   have c18b0 : (t362 == t356) = false := beq_eq_false_iff_ne.mpr c18
   have c18b1 : (t362 != t356) = true := bne_iff_ne.mpr c18
   (first | rw [c18b0] | (simp only [i64_w, i32_w]; rw [c18b0]) | skip)
   have H' := Aside0.mk H
   clear H
   go_wp2
   go_meet
   case rel => exact ⟨_, (true), (by first | rfl | (simp; done) | (simp [*]; done) | (refine congrArg (Value.int .i64) ?_; unfold wrap64; omega) | (simp only [shl_one_small _ (by assumption) (by omega)]; done) | (simp [*]; rw [shl_one_small _ (by assumption) (by omega)]; done)), H', ⟨by first | omega | exact Nat.le_refl _⟩, ⟨by (with_reducible repeat (first | apply Kd.R_alloc | apply Kd.R_drewN | apply Kd.R_drew)); exact Kd.R_mono (Kd.R_far (p := ⟨gb363, 0, none⟩) (Kd.R_types HO360.out BK363.out (by decide)) (fun _ hk => hk.2) (.int .u64 t361)) (fun _ hk => trivial)⟩, ⟨by (with_reducible repeat (first | refine blk_drewN ?_ _ | refine blk_drew ?_ | refine blk_alloc ?_ _)); refine blk_far ?_ NB351_363.out _; (with_reducible repeat (first | refine blk_drewN ?_ _ | refine blk_drew ?_ | refine blk_alloc ?_ _)); exact BK351.out⟩, ⟨by (with_reducible repeat (first | refine blk_drewN ?_ _ | refine blk_drew ?_ | refine blk_alloc ?_ _)); refine blk_far ?_ NB357_363.out _; (with_reducible repeat (first | refine blk_drewN ?_ _ | refine blk_drew ?_ | refine blk_alloc ?_ _)); exact BK357.out⟩, ⟨by (with_reducible repeat (first | refine blk_drewN ?_ _ | refine blk_drew ?_ | refine blk_alloc ?_ _)); refine blk_put (cs := #[.int .u64 0]) ?_ 0 _ rfl; (with_reducible repeat (first | refine blk_drewN ?_ _ | refine blk_drew ?_ | refine blk_alloc ?_ _)); exact BK363.out⟩, ⟨by repeat (first | (with_reducible first | exact HB.out | apply below_alloc | apply pw_below_drewN | apply below_drew1 | refine below_set ?_ GE351.out | refine below_set ?_ GE357.out | refine below_set ?_ GE363.out) | exact HB.out)⟩⟩
 case rest =>
  clear HC5
  try clear c18
  try clear c19
  try clear hcz11_0
  try clear hcz12_0
  try clear hcz17_0
  try clear hcz7_0
  try clear hfz11_0
  try clear hfz12_0
  try clear hfz17_0
  try clear hfz7_0
  obtain ⟨kq, x40_4, rfl, HA, HJ4, HO_8, BK351, BK357, BK363, HB⟩ := hcut
  cases kq with
  | zero => exact absurd HA.out (by simp [hinterlandlaw01_RollShuffles.j0])
  | succ kj4 =>
   have H := HA.out
   clear HA
   simp only [hinterlandlaw01_RollShuffles.j0] at H
   by_cases c33 : x40_4 = true
   ·subst c33
    have H1 : (some false) = some r := by rw [if_pos rfl] at H; exact H
    clear H
    have H := H1
    clear H1
    obtain rfl := Option.some.inj H
    go_wp2
    go_ret
    exact ⟨by first | rfl | (simp [errW_none, errW_some] <;> rfl) | (simp [*, errW_none, errW_some] <;> rfl), by repeat (first | (with_reducible first | exact HB.out | apply below_alloc | apply pw_below_drewN | apply below_drew1 | refine below_set ?_ GE351.out | refine below_set ?_ GE357.out | refine below_set ?_ GE363.out) | exact HB.out)⟩
   ·replace c33 := Bool.eq_false_iff.mpr c33
    subst c33
    have H1 : (if 0 ≤ (t358.length : Int) then (if ((t358.length : Int) : Int).toNat ≤ 281474976710656 then (hinterlandlaw01_RollShuffles.l0 kj4 t358 (List.replicate ((t358.length : Int) : Int).toNat false) 0) else (none)) else (none)) = some r := by rw [if_neg (show ¬ (false = true) by decide)] at H; exact H
    clear H
    have H := H1
    clear H1
    by_cases c34 : 0 ≤ (t358.length : Int)
    ·rw [if_pos c34] at H
     have c34b0 := eq_true c34
     have c34b1 : decide (0 ≤ (t358.length : Int)) = true := decide_eq_true c34
     clear c34
     by_cases c35 : ((t358.length : Int) : Int).toNat ≤ 281474976710656
     ·rw [if_pos c35] at H
      have c35b0 := eq_true c35
      have c35b1 : decide (((t358.length : Int) : Int).toNat ≤ 281474976710656) = true := decide_eq_true c35
      clear c35
      obtain ⟨y365, hy365⟩ : ∃ y_ : List Bool, y_ = (List.replicate ((t358.length : Int) : Int).toNat false) := ⟨_, rfl⟩
      replace H : (hinterlandlaw01_RollShuffles.l0 kj4 t358 y365 0) = some r := by first | (rw [hy365]; with_reducible exact H) | (have H2_ := (Option.bind_some _ _).symm.trans H; rw [hy365]; with_reducible exact H2_) | (have H2_ := (Option.bind_some _ _).symm.trans H; with_reducible exact H2_) | with_reducible exact H | (rw [hy365]; exact H) | exact H
      have Ny365 := Aside0.mk hy365
      clear hy365
      have H' := Aside0.mk H
      clear H
      obtain ⟨Ao36, co36, eo36⟩ := Kd.R_slice HO_8.out
      subst eo36
      go_wp2_with (first | ((with_reducible refine gate_dst (N := 43) rfl ?_); (try (refine gate_guard (by rfl) ?_; dsimp only)); refine Kd.R_make Kd.bool _ 4 rfl (N := 43) rfl 55 _ _ rfl (t358.length : Int) rfl rfl Try.underlying55 (.bool false) 1 info4 rfl (by decide) (by omega) false (ok := fun _ => True) (okp := fun _ => True) rfl (fun _ hk => hk) trivial (of_decide_eq_true (by first | (with_reducible assumption) | assumption)) (Nat.le_trans (Nat.mul_le_mul_right _ (of_decide_eq_true (by first | (with_reducible assumption) | assumption) : (t358.length : Int).toNat ≤ 281474976710656)) (by omega)) (Below.refl _ _) (Nat.le_refl _) ?_; intro v366 w37 ho38 hb hg_ hnew_; clear hg_ hnew_; (first | rw [← Ny365.out] at ho38 | (simp only [Int.reduceToNat] at ho38; rw [← Ny365.out] at ho38)); have n0_ := Aside0.mk (Kd.R_below (by (with_reducible repeat (first | apply Kd.R_alloc | apply Kd.R_drewN | apply Kd.R_drew)); exact HO_8.out) hb); have n1_ := Aside0.mk (Kd.R_lower ho38 (below_size (by repeat (first | (with_reducible first | exact HB.out | apply below_alloc | apply pw_below_drewN | apply below_drew1 | refine below_set ?_ GE351.out | refine below_set ?_ GE357.out | refine below_set ?_ GE363.out) | exact HB.out)))); have n2_ := Aside0.mk (blk_below (g := gb351) (o := .cells #[.int .u64 a0_0] 31 (0, 0)) (by (with_reducible repeat (first | refine blk_drewN ?_ _ | refine blk_drew ?_ | refine blk_alloc ?_ _)); exact BK351.out) hb); have n3_ := Aside0.mk (blk_below (g := gb357) (o := .cells #[.int .u64 t355] 31 (0, 0)) (by (with_reducible repeat (first | refine blk_drewN ?_ _ | refine blk_drew ?_ | refine blk_alloc ?_ _)); exact BK357.out) hb); have n4_ := Aside0.mk (blk_below (g := gb363) (o := .cells #[.int .u64 t361] 31 (0, 0)) (by (with_reducible repeat (first | refine blk_drewN ?_ _ | refine blk_drew ?_ | refine blk_alloc ?_ _)); exact BK363.out) hb); have n5_ := Aside0.mk (below_step (by repeat (first | (with_reducible first | exact HB.out | apply below_alloc | apply pw_below_drewN | apply below_drew1 | refine below_set ?_ GE351.out | refine below_set ?_ GE357.out | refine below_set ?_ GE363.out) | exact HB.out)) hb); clear HO_8; clear BK351; clear BK357; clear BK363; clear HB; have HO_8 := n0_; have HO367 := n1_; have BK351 := n2_; have BK357 := n3_; have BK363 := n4_; have HB := n5_; clear n0_ n1_ n2_ n3_ n4_ n5_; clear hb ho38))
      go_loopg [12] kj4 (fun kq v12 w' => ∃ (x11_2 : List Bool) (x12_2 : Int), v12 = .int .i64 x12_2 ∧ Aside0 (hinterlandlaw01_RollShuffles.l0 kq t358 x11_2 x12_2 = some r) ∧ Aside0 (kq ≤ kj4) ∧ Aside0 (Kd.R (Kd.int .i64) 3 w' w.heap.size (fun _ => True) (.slice Ao36 t358.length co36) t358) ∧ Aside0 (Kd.R Kd.bool 4 w' w.heap.size (fun _ => True) v366 x11_2) ∧ Aside0 (w'.heap[gb351]? = some (.cells #[.int .u64 a0_0] 31 (0, 0))) ∧ Aside0 (w'.heap[gb357]? = some (.cells #[.int .u64 t355] 31 (0, 0))) ∧ Aside0 (w'.heap[gb363]? = some (.cells #[.int .u64 t361] 31 (0, 0))) ∧ Aside0 (Below w.heap.size w w'))
      case atStart => exact ⟨(y365), (0), (by first | rfl | (simp; done) | (simp [*]; done) | (refine congrArg (Value.int .i64) ?_; unfold wrap64; omega) | (simp only [shl_one_small _ (by assumption) (by omega)]; done) | (simp [*]; rw [shl_one_small _ (by assumption) (by omega)]; done)), H', ⟨Nat.le_refl _⟩, ⟨by (with_reducible repeat (first | apply Kd.R_alloc | apply Kd.R_drewN | apply Kd.R_drew)); exact HO_8.out⟩, ⟨by (with_reducible repeat (first | apply Kd.R_alloc | apply Kd.R_drewN | apply Kd.R_drew)); exact HO367.out⟩, ⟨by (with_reducible repeat (first | refine blk_drewN ?_ _ | refine blk_drew ?_ | refine blk_alloc ?_ _)); exact BK351.out⟩, ⟨by (with_reducible repeat (first | refine blk_drewN ?_ _ | refine blk_drew ?_ | refine blk_alloc ?_ _)); exact BK357.out⟩, ⟨by (with_reducible repeat (first | refine blk_drewN ?_ _ | refine blk_drew ?_ | refine blk_alloc ?_ _)); exact BK363.out⟩, ⟨by repeat (first | (with_reducible first | exact HB.out | apply below_alloc | apply pw_below_drewN | apply below_drew1 | refine below_set ?_ GE351.out | refine below_set ?_ GE357.out | refine below_set ?_ GE363.out) | exact HB.out)⟩⟩
      case round =>
       clear H'
       try clear c18
       try clear c19
       try clear c33
       try clear c34
       try clear c34b0
       try clear c34b1
       try clear c35
       try clear c35b0
       try clear c35b1
       try clear hcz11_0
       try clear hcz12_0
       try clear hcz17_0
       try clear hcz7_0
       try clear hfz11_0
       try clear hfz12_0
       try clear hfz17_0
       try clear hfz7_0
       obtain ⟨x11_2, x12_2, rfl, HA, HK2, HO_8, HO_11, BK351, BK357, BK363, HB⟩ := hrel
       cases gk with
       | zero => exact absurd HA.out (by simp [hinterlandlaw01_RollShuffles.l0])
       | succ k2 =>
        have H := HA.out
        clear HA
        simp only [hinterlandlaw01_RollShuffles.l0] at H
        by_cases c39 : x12_2 < (t358.length : Int)
        ·rw [if_pos c39] at H
         have c39b0 : decide (x12_2 < (t358.length : Int)) = true := decide_eq_true c39
         clear c39
         by_cases c40 : 0 ≤ x12_2
         ·rw [if_pos c40] at H
          have c40b0 : decide (0 ≤ x12_2) = true := decide_eq_true c40
          clear c40
          by_cases c41 : (rd t358 x12_2) < 0
          ·rw [if_pos c41] at H
           have c41b0 : decide ((rd t358 x12_2) < 0) = true := decide_eq_true c41
           clear c41
           obtain rfl := Option.some.inj H
           have p368 : 0 ≤ (x12_2 : Int) := of_decide_eq_true (by first | (with_reducible assumption) | assumption)
           have q368 : x12_2 < (t358.length : Int) := of_decide_eq_true (by first | (with_reducible assumption) | assumption)
           obtain ⟨ad368, e368, hx368_0⟩ := Kd.at_int (Kd.R_reads' HO_8.out).2.2 x12_2 p368 q368
           cases e368
           replace p368 := eq_true p368
           replace q368 := eq_true q368
           go_wp2
           go_ret
           exact ⟨by first | rfl | (simp [errW_none, errW_some] <;> rfl) | (simp [*, errW_none, errW_some] <;> rfl), by repeat (first | (with_reducible first | exact HB.out | apply below_alloc | apply pw_below_drewN | apply below_drew1 | refine below_set ?_ GE351.out | refine below_set ?_ GE357.out | refine below_set ?_ GE363.out) | exact HB.out)⟩
          ·rw [if_neg c41] at H
           have c41b0 : decide ((rd t358 x12_2) < 0) = false := decide_eq_false c41
           clear c41
           by_cases c42 : (rd t358 x12_2) ≥ (t358.length : Int)
           ·rw [if_pos c42] at H
            have c42b0 : decide ((t358.length : Int) ≤ (rd t358 x12_2)) = true := decide_eq_true c42
            clear c42
            obtain rfl := Option.some.inj H
            have p368 : 0 ≤ (x12_2 : Int) := of_decide_eq_true (by first | (with_reducible assumption) | assumption)
            have q368 : x12_2 < (t358.length : Int) := of_decide_eq_true (by first | (with_reducible assumption) | assumption)
            obtain ⟨ad368, e368, hx368_0⟩ := Kd.at_int (Kd.R_reads' HO_8.out).2.2 x12_2 p368 q368
            cases e368
            replace p368 := eq_true p368
            replace q368 := eq_true q368
            have p369 : 0 ≤ (x12_2 : Int) := of_decide_eq_true (by first | (with_reducible assumption) | assumption)
            have q369 : x12_2 < (t358.length : Int) := of_decide_eq_true (by first | (with_reducible assumption) | assumption)
            obtain ⟨ad369, e369, hx369_0⟩ := Kd.at_int (Kd.R_reads' HO_8.out).2.2 x12_2 p369 q369
            obtain rfl : ad368 = ad369 := (by injection e369)
            replace p369 := eq_true p369
            replace q369 := eq_true q369
            go_wp2
            go_ret
            exact ⟨by first | rfl | (simp [errW_none, errW_some] <;> rfl) | (simp [*, errW_none, errW_some] <;> rfl), by repeat (first | (with_reducible first | exact HB.out | apply below_alloc | apply pw_below_drewN | apply below_drew1 | refine below_set ?_ GE351.out | refine below_set ?_ GE357.out | refine below_set ?_ GE363.out) | exact HB.out)⟩
           ·rw [if_neg c42] at H
            have c42b0 : decide ((t358.length : Int) ≤ (rd t358 x12_2)) = false := decide_eq_false c42
            clear c42
            by_cases c43 : 0 ≤ (rd t358 x12_2)
            ·rw [if_pos c43] at H
             have c43b0 : decide (0 ≤ (rd t358 x12_2)) = true := decide_eq_true c43
             clear c43
             by_cases c44 : (rd t358 x12_2) < (x11_2.length : Int)
             ·rw [if_pos c44] at H
              have c44b0 : decide ((rd t358 x12_2) < (x11_2.length : Int)) = true := decide_eq_true c44
              clear c44
              obtain ⟨bq45, hbq45⟩ : ∃ b_ : Bool, b_ = (rdOf false x11_2 (rd t358 x12_2)) := ⟨_, rfl⟩
              replace H : (if bq45 = true then (some false) else (hinterlandlaw01_RollShuffles.l0 k2 t358 (x11_2.set ((rd t358 x12_2) : Int).toNat true) (wrap64 (x12_2 + 1)))) = some r := by rw [← hbq45] at H; exact H
              have Nbq45 := Aside0.mk hbq45
              clear hbq45
              by_cases c46 : bq45 = true
              ·subst c46
               have H1 : (some false) = some r := by rw [if_pos rfl] at H; exact H
               clear H
               have H := H1
               clear H1
               obtain rfl := Option.some.inj H
               have p368 : 0 ≤ (x12_2 : Int) := of_decide_eq_true (by first | (with_reducible assumption) | assumption)
               have q368 : x12_2 < (t358.length : Int) := of_decide_eq_true (by first | (with_reducible assumption) | assumption)
               obtain ⟨ad368, e368, hx368_0⟩ := Kd.at_int (Kd.R_reads' HO_8.out).2.2 x12_2 p368 q368
               cases e368
               replace p368 := eq_true p368
               replace q368 := eq_true q368
               have p369 : 0 ≤ (x12_2 : Int) := of_decide_eq_true (by first | (with_reducible assumption) | assumption)
               have q369 : x12_2 < (t358.length : Int) := of_decide_eq_true (by first | (with_reducible assumption) | assumption)
               obtain ⟨ad369, e369, hx369_0⟩ := Kd.at_int (Kd.R_reads' HO_8.out).2.2 x12_2 p369 q369
               obtain rfl : ad368 = ad369 := (by injection e369)
               replace p369 := eq_true p369
               replace q369 := eq_true q369
               have p370 : 0 ≤ (x12_2 : Int) := of_decide_eq_true (by first | (with_reducible assumption) | assumption)
               have q370 : x12_2 < (t358.length : Int) := of_decide_eq_true (by first | (with_reducible assumption) | assumption)
               obtain ⟨ad370, e370, hx370_0⟩ := Kd.at_int (Kd.R_reads' HO_8.out).2.2 x12_2 p370 q370
               obtain rfl : ad368 = ad370 := (by injection e370)
               replace p370 := eq_true p370
               replace q370 := eq_true q370
               obtain ⟨Ao47, co47, eo47⟩ := Kd.R_slice HO_11.out
               subst eo47
               have p371 : 0 ≤ ((rd t358 x12_2) : Int) := of_decide_eq_true (by first | (with_reducible assumption) | assumption)
               have q371 : (rd t358 x12_2) < (x11_2.length : Int) := of_decide_eq_true (by first | (with_reducible assumption) | assumption)
               obtain ⟨ad371, e371, hx371_0⟩ := Kd.at_bool (Kd.R_reads' HO_11.out).2.2 (rd t358 x12_2) p371 q371
               (try rw [← Nbq45.out] at hx371_0)
               cases e371
               replace p371 := eq_true p371
               replace q371 := eq_true q371
               go_wp2
               go_ret
               exact ⟨by first | rfl | (simp [errW_none, errW_some] <;> rfl) | (simp [*, errW_none, errW_some] <;> rfl), by repeat (first | (with_reducible first | exact HB.out | apply below_alloc | apply pw_below_drewN | apply below_drew1 | refine below_set ?_ GE351.out | refine below_set ?_ GE357.out | refine below_set ?_ GE363.out) | exact HB.out)⟩
              ·replace c46 := Bool.eq_false_iff.mpr c46
               subst c46
               have H1 : (hinterlandlaw01_RollShuffles.l0 k2 t358 (x11_2.set ((rd t358 x12_2) : Int).toNat true) (wrap64 (x12_2 + 1))) = some r := by rw [if_neg (show ¬ (false = true) by decide)] at H; exact H
               clear H
               have H := H1
               clear H1
               obtain ⟨y373, hy373⟩ : ∃ y_ : List Bool, y_ = (x11_2.set ((rd t358 x12_2) : Int).toNat true) := ⟨_, rfl⟩
               replace H : (hinterlandlaw01_RollShuffles.l0 k2 t358 y373 (wrap64 (x12_2 + 1))) = some r := by first | (rw [hy373]; with_reducible exact H) | (have H2_ := (Option.bind_some _ _).symm.trans H; rw [hy373]; with_reducible exact H2_) | (have H2_ := (Option.bind_some _ _).symm.trans H; with_reducible exact H2_) | with_reducible exact H | (rw [hy373]; exact H) | exact H
               have Ny373 := Aside0.mk hy373
               clear hy373
               have H' := Aside0.mk H
               clear H
               have p368 : 0 ≤ (x12_2 : Int) := of_decide_eq_true (by first | (with_reducible assumption) | assumption)
               have q368 : x12_2 < (t358.length : Int) := of_decide_eq_true (by first | (with_reducible assumption) | assumption)
               obtain ⟨ad368, e368, hx368_0⟩ := Kd.at_int (Kd.R_reads' HO_8.out).2.2 x12_2 p368 q368
               cases e368
               replace p368 := eq_true p368
               replace q368 := eq_true q368
               have p369 : 0 ≤ (x12_2 : Int) := of_decide_eq_true (by first | (with_reducible assumption) | assumption)
               have q369 : x12_2 < (t358.length : Int) := of_decide_eq_true (by first | (with_reducible assumption) | assumption)
               obtain ⟨ad369, e369, hx369_0⟩ := Kd.at_int (Kd.R_reads' HO_8.out).2.2 x12_2 p369 q369
               obtain rfl : ad368 = ad369 := (by injection e369)
               replace p369 := eq_true p369
               replace q369 := eq_true q369
               have p370 : 0 ≤ (x12_2 : Int) := of_decide_eq_true (by first | (with_reducible assumption) | assumption)
               have q370 : x12_2 < (t358.length : Int) := of_decide_eq_true (by first | (with_reducible assumption) | assumption)
               obtain ⟨ad370, e370, hx370_0⟩ := Kd.at_int (Kd.R_reads' HO_8.out).2.2 x12_2 p370 q370
               obtain rfl : ad368 = ad370 := (by injection e370)
               replace p370 := eq_true p370
               replace q370 := eq_true q370
               obtain ⟨Ao49, co49, eo49⟩ := Kd.R_slice HO_11.out
               subst eo49
               have p371 : 0 ≤ ((rd t358 x12_2) : Int) := of_decide_eq_true (by first | (with_reducible assumption) | assumption)
               have q371 : (rd t358 x12_2) < (x11_2.length : Int) := of_decide_eq_true (by first | (with_reducible assumption) | assumption)
               obtain ⟨ad371, e371, hx371_0⟩ := Kd.at_bool (Kd.R_reads' HO_11.out).2.2 (rd t358 x12_2) p371 q371
               (try rw [← Nbq45.out] at hx371_0)
               cases e371
               replace p371 := eq_true p371
               replace q371 := eq_true q371
               have p372 : 0 ≤ (x12_2 : Int) := of_decide_eq_true (by first | (with_reducible assumption) | assumption)
               have q372 : x12_2 < (t358.length : Int) := of_decide_eq_true (by first | (with_reducible assumption) | assumption)
               obtain ⟨ad372, e372, hx372_0⟩ := Kd.at_int (Kd.R_reads' HO_8.out).2.2 x12_2 p372 q372
               obtain rfl : ad368 = ad372 := (by injection e372)
               replace p372 := eq_true p372
               replace q372 := eq_true q372
               have p48 : 0 ≤ ((rd t358 x12_2) : Int) := of_decide_eq_true (by first | (with_reducible assumption) | assumption)
               have q48 : ((rd t358 x12_2) : Int) < ((x11_2.length : Int) : Int) := of_decide_eq_true (by first | (with_reducible assumption) | assumption)
               obtain ⟨go48, co48, eo48, gb48, gl48, cl48, HG48⟩ := Kd.R_form HO_11.out (by omega)
               (first | cases eo48 | (injection eo48 with ea_ en_ ec_; (first | subst ea_ | (injection ea_ with ea_; subst ea_)); subst ec_; clear en_))
               have GB48 := Aside0.mk gb48
               have GG48 := Aside0.mk HG48
               clear gb48 gl48 HG48
               (first | simp only [add_plain] at hx371_0 | skip)
               obtain ⟨hx48_0, hf48_0⟩ := Kd.R_celln false HO_11.out ((rd t358 x12_2) : Int) p48 q48
               replace p48 := eq_true p48
               replace q48 := eq_true q48
               have HP50 := Kd.R_putg HO_11.out ((rd t358 x12_2) : Int) true
               go_wp2_with (first | ((with_reducible refine gate_store (t := 4) (p := 78) rfl ?_); refine store_event (t := 4) (p := 78) (v := ?vo_w51) (w1 := (wr.setCell ⟨go48, ((rd t358 x12_2) : Int).toNat, none⟩ (.bool true))) ?hg ?ho ?hn ?hr ?_; (case ho => rfl); (case hg => rfl); (case hn => rfl); (case hr => first | (go_simp; done) | (go_simp; rfl)); intro w51 hw; have hg : wr.grownBy w51 (some go48) := (by rw [hw]; exact HP50.2); have hp_ : Kd.R Kd.bool 4 w51 w.heap.size (fun _ => True) (.slice (some ⟨go48, 0, none⟩) x11_2.length co49) y373 := (by rw [hw, Ny373.out]; exact HP50.1); clear HP50; have n0_ := Aside0.mk (Kd.R_over' (v := (.slice (some ⟨go48, 0, none⟩) x11_2.length co49)) (by (with_reducible repeat (first | apply Kd.R_alloc | apply Kd.R_drewN | apply Kd.R_drew)); exact HO_8.out) (Kd.R_typed HO_11.out) (by decide) hg); have n1_ := Aside0.mk (hp_); have n2_ := Aside0.mk (blk_grown (g := gb351) (o := .cells #[.int .u64 a0_0] 31 (0, 0)) (by (with_reducible repeat (first | refine blk_drewN ?_ _ | refine blk_drew ?_ | refine blk_alloc ?_ _)); exact BK351.out) hg (Kd.R_ne HO_11.out BK351.out (by decide))); have n3_ := Aside0.mk (blk_grown (g := gb357) (o := .cells #[.int .u64 t355] 31 (0, 0)) (by (with_reducible repeat (first | refine blk_drewN ?_ _ | refine blk_drew ?_ | refine blk_alloc ?_ _)); exact BK357.out) hg (Kd.R_ne HO_11.out BK357.out (by decide))); have n4_ := Aside0.mk (blk_grown (g := gb363) (o := .cells #[.int .u64 t361] 31 (0, 0)) (by (with_reducible repeat (first | refine blk_drewN ?_ _ | refine blk_drew ?_ | refine blk_alloc ?_ _)); exact BK363.out) hg (Kd.R_ne HO_11.out BK363.out (by decide))); have n5_ := Aside0.mk ((by rw [hw]; exact below_set (HB.out) GB48.out : Below w.heap.size w w51)); clear HO_8; clear HO_11; clear BK351; clear BK357; clear BK363; clear HB; have HO_8 := n0_; have HO_11 := n1_; have BK351 := n2_; have BK357 := n3_; have BK363 := n4_; have HB := n5_; clear n0_ n1_ n2_ n3_ n4_ n5_; clear hg hw hp_))
               go_roundg k2
               case measure => have := HJ4.out; have := HK2.out; omega
               case rel => exact ⟨(y373), (wrap64 (x12_2 + 1)), (by first | rfl | (simp; done) | (simp [*]; done) | (refine congrArg (Value.int .i64) ?_; unfold wrap64; omega) | (simp only [shl_one_small _ (by assumption) (by omega)]; done) | (simp [*]; rw [shl_one_small _ (by assumption) (by omega)]; done)), H', ⟨by have := HJ4.out; have := HK2.out; omega⟩, ⟨by (with_reducible repeat (first | apply Kd.R_alloc | apply Kd.R_drewN | apply Kd.R_drew)); exact HO_8.out⟩, ⟨by (with_reducible repeat (first | apply Kd.R_alloc | apply Kd.R_drewN | apply Kd.R_drew)); exact HO_11.out⟩, ⟨by (with_reducible repeat (first | refine blk_drewN ?_ _ | refine blk_drew ?_ | refine blk_alloc ?_ _)); exact BK351.out⟩, ⟨by (with_reducible repeat (first | refine blk_drewN ?_ _ | refine blk_drew ?_ | refine blk_alloc ?_ _)); exact BK357.out⟩, ⟨by (with_reducible repeat (first | refine blk_drewN ?_ _ | refine blk_drew ?_ | refine blk_alloc ?_ _)); exact BK363.out⟩, ⟨by repeat (first | (with_reducible first | exact HB.out | apply below_alloc | apply pw_below_drewN | apply below_drew1 | refine below_set ?_ GE351.out | refine below_set ?_ GE357.out | refine below_set ?_ GE363.out) | exact HB.out)⟩⟩
             ·rw [if_neg c44] at H
              exact absurd H (by simp)
            ·rw [if_neg c43] at H
             exact absurd H (by simp)
         ·rw [if_neg c40] at H
          exact absurd H (by simp)
        ·rw [if_neg c39] at H
         have c39b0 : decide (x12_2 < (t358.length : Int)) = false := decide_eq_false c39
         clear c39
         replace H := Option.bind_eq_some_iff.mp H
         obtain ⟨t374, A520, H⟩ := H
         replace H : (some t374) = some r := H
         have A52 := Aside0.mk A520
         clear A520
         obtain rfl := Option.some.inj H
         go_wp2_with (first | ((with_reducible refine gate_callee (f := 14) rfl ?_); refine goesL_ (some 79) rfl rfl Try.func14 (by kernel_rfl) rfl #[] rfl (by (try simp only [List.map_toArray, List.map_cons, List.map_nil]); first | done | rfl | (simp only [List.length_drop, List.length_take]; rfl)) ?_; (with_reducible refine (hinterlandlaw01_known.calls k2  t374 _ A52.out).mono ?_); rintro e w53 ⟨rfl, hb⟩; refine ⟨_, rfl, ?_⟩; have n0_ := Aside0.mk (Kd.R_below (by (with_reducible repeat (first | apply Kd.R_alloc | apply Kd.R_drewN | apply Kd.R_drew)); exact HO_8.out) hb); have n1_ := Aside0.mk (Kd.R_below (by (with_reducible repeat (first | apply Kd.R_alloc | apply Kd.R_drewN | apply Kd.R_drew)); exact HO_11.out) hb); have n2_ := Aside0.mk (blk_below (g := gb351) (o := .cells #[.int .u64 a0_0] 31 (0, 0)) (by (with_reducible repeat (first | refine blk_drewN ?_ _ | refine blk_drew ?_ | refine blk_alloc ?_ _)); exact BK351.out) hb); have n3_ := Aside0.mk (blk_below (g := gb357) (o := .cells #[.int .u64 t355] 31 (0, 0)) (by (with_reducible repeat (first | refine blk_drewN ?_ _ | refine blk_drew ?_ | refine blk_alloc ?_ _)); exact BK357.out) hb); have n4_ := Aside0.mk (blk_below (g := gb363) (o := .cells #[.int .u64 t361] 31 (0, 0)) (by (with_reducible repeat (first | refine blk_drewN ?_ _ | refine blk_drew ?_ | refine blk_alloc ?_ _)); exact BK363.out) hb); have n5_ := Aside0.mk (below_step (by repeat (first | (with_reducible first | exact HB.out | apply below_alloc | apply pw_below_drewN | apply below_drew1 | refine below_set ?_ GE351.out | refine below_set ?_ GE357.out | refine below_set ?_ GE363.out) | exact HB.out)) hb); clear HO_8; clear HO_11; clear BK351; clear BK357; clear BK363; clear HB; have HO_8 := n0_; have HO_11 := n1_; have BK351 := n2_; have BK357 := n3_; have BK363 := n4_; have HB := n5_; clear n0_ n1_ n2_ n3_ n4_ n5_; (try clear hb); (try clear hb2); (try clear hk); (try clear hi)))
         go_ret
         exact ⟨by first | rfl | (simp [errW_none, errW_some] <;> rfl) | (simp [*, errW_none, errW_some] <;> rfl), by repeat (first | (with_reducible first | exact HB.out | apply below_alloc | apply pw_below_drewN | apply below_drew1 | refine below_set ?_ GE351.out | refine below_set ?_ GE357.out | refine below_set ?_ GE363.out) | exact HB.out)⟩
     ·rw [if_neg c35] at H
      exact absurd H (by simp)
    ·rw [if_neg c34] at H
     exact absurd H (by simp)

/-- THE ONE PURE STATEMENT of hinterlandlaw01_RollShuffles. -/
def hinterlandlaw01_RollShuffles.Pure : Prop := ∀ (a0_0 : Int) (a1 : Int), (wInt .u64) a0_0 → (wInt .i64) a1 → ∃ k, hinterlandlaw01_RollShuffles.f k a0_0 a1 = some true

end Go.Proofs.Ytmgccgiomnkbmaa.Q
