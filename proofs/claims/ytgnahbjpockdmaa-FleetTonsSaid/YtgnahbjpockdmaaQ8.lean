-- PRINTED by print.py (a twelfth state) out of the translation. Not trusted: Lean checks it.
import Derived.Test.YtgnahbjpockdmaaQ0
namespace Go.Proofs.Ytgnahbjpockdmaa.Q
open Go.RowKit Go.Proofs.YtgnahbjpockdmaaOwn Go.Proofs.YtgnahbjpockdmaaW.PrintWords Go.Proofs.YtgnahbjpockdmaaW.PrintLast Go.Proofs.YtgnahbjpockdmaaW.PrintMore
attribute [local go_sem] max2_int min2_int max_two min_two max_three min_three max_four min_four   -- for this text's walks alone
set_option linter.unusedVariables false
set_option linter.unusedSimpArgs false

/-! ### fleet_fits: function 59 -/
mutual
def fleet_fits.l0 : Nat → List (S54) → List Int → List Int → Int → Int → ByteArray → Int → Int → Int → Int → Int → Int → Int → Int → Int → Int → Int → Int → Bool → Option (Int)
  | 0, _, _, _, _, _, _, _, _, _, _, _, _, _, _, _, _, _, _, _ => none
  | k + 1, x0, x1, x14, x15, x16, x165000, x165001, x165002, x165003, x165004, x165005, x165006, x165007, x165008, x165009, x165010, x165011, x165012, x165013 => if x16 < x15 then (if 0 ≤ x16 then (if x16 < (x14.length : Int) then (if 0 ≤ (rd x14 x16) then (if (rd x14 x16) < (x0.length : Int) then (if ((rd_T54 x0 (rd x14 x16)).f1) = x165001 then (fleet_fits.l0 k x0 x1 x14 x15 (wrap64 (x16 + 1)) x165000 x165001 x165002 x165003 x165004 x165005 x165006 x165007 x165008 x165009 x165010 x165011 x165012 x165013) else (some 8)) else (none)) else (none)) else (none)) else (none)) else (if x165001 = 0 then (if x165003 = 0 then (fleet_fits.j1 k true) else (fleet_fits.j1 k false)) else (fleet_fits.j1 k (decide ((x1.length : Int) > 1))))
def fleet_fits.j1 : Nat → Bool → Option (Int)
  | 0, _ => none
  | k + 1, x46 => if x46 = true then (some 8) else (some 0)
end
def fleet_fits.f (k : Nat) (l0 : List (S54)) (l1 : List Int) : Option (Int) := if 0 < (l1.length : Int) then (if 0 ≤ (rd l1 0) then (if (rd l1 0) < (l0.length : Int) then (fleet_fits.l0 k l0 l1 l1 (l1.length : Int) 0 ((rd_T54 l0 (rd l1 0)).f0) ((rd_T54 l0 (rd l1 0)).f1) ((rd_T54 l0 (rd l1 0)).f2) ((rd_T54 l0 (rd l1 0)).f3) ((rd_T54 l0 (rd l1 0)).f4) ((rd_T54 l0 (rd l1 0)).f5) ((rd_T54 l0 (rd l1 0)).f6) ((rd_T54 l0 (rd l1 0)).f7) ((rd_T54 l0 (rd l1 0)).f8) ((rd_T54 l0 (rd l1 0)).f9) ((rd_T54 l0 (rd l1 0)).f10) ((rd_T54 l0 (rd l1 0)).f11) ((rd_T54 l0 (rd l1 0)).f12) ((rd_T54 l0 (rd l1 0)).f13)) else (none)) else (none)) else (none)
theorem fleet_fits.mono_l : ∀ k, (∀ y0 y1 y2 y3 y4 y5 y6 y7 y8 y9 y10 y11 y12 y13 y14 y15 y16 y17 y18, LeO (fleet_fits.l0 k y0 y1 y2 y3 y4 y5 y6 y7 y8 y9 y10 y11 y12 y13 y14 y15 y16 y17 y18) (fleet_fits.l0 (k + 1) y0 y1 y2 y3 y4 y5 y6 y7 y8 y9 y10 y11 y12 y13 y14 y15 y16 y17 y18)) ∧ (∀ y0, LeO (fleet_fits.j1 k y0) (fleet_fits.j1 (k + 1) y0))
  | 0 => ⟨fun _ _ _ _ _ _ _ _ _ _ _ _ _ _ _ _ _ _ _ r h => by simp [fleet_fits.l0] at h, fun _ r h => by simp [fleet_fits.j1] at h⟩
  | k + 1 => by
    obtain ⟨ih0, ih1⟩ := fleet_fits.mono_l k
    refine ⟨?_, ?_⟩
    · intro y0 y1 y2 y3 y4 y5 y6 y7 y8 y9 y10 y11 y12 y13 y14 y15 y16 y17 y18
      unfold fleet_fits.l0
      repeat' first
      | (with_reducible exact ih0 _ _ _ _ _ _ _ _ _ _ _ _ _ _ _ _ _ _ _)
      | (with_reducible exact ih1 _)
      | (with_reducible exact LeO.refl _)
      | (with_reducible exact LeO.none _)
      | (with_reducible refine LeO.ite ?_ ?_)
      | (with_reducible refine LeO.bind ?_ (fun _ => ?_))
      | exact ih0 _ _ _ _ _ _ _ _ _ _ _ _ _ _ _ _ _ _ _
      | exact ih1 _
      | exact LeO.none _
      | refine LeO.ite ?_ ?_
      | refine LeO.bind ?_ (fun _ => ?_)
    · intro y0
      unfold fleet_fits.j1
      repeat' first
      | (with_reducible exact ih0 _ _ _ _ _ _ _ _ _ _ _ _ _ _ _ _ _ _ _)
      | (with_reducible exact ih1 _)
      | (with_reducible exact LeO.refl _)
      | (with_reducible exact LeO.none _)
      | (with_reducible refine LeO.ite ?_ ?_)
      | (with_reducible refine LeO.bind ?_ (fun _ => ?_))
      | exact ih0 _ _ _ _ _ _ _ _ _ _ _ _ _ _ _ _ _ _ _
      | exact ih1 _
      | exact LeO.none _
      | refine LeO.ite ?_ ?_
      | refine LeO.bind ?_ (fun _ => ?_)
theorem fleet_fits.mono : ∀ a0 a1 k, LeO (fleet_fits.f k a0 a1) (fleet_fits.f (k + 1) a0 a1) := by
  intro a0 a1 k
  obtain ⟨ih0, ih1⟩ := fleet_fits.mono_l k
  unfold fleet_fits.f
  repeat' first
      | (with_reducible exact ih0 _ _ _ _ _ _ _ _ _ _ _ _ _ _ _ _ _ _ _)
      | (with_reducible exact ih1 _)
      | (with_reducible exact LeO.refl _)
      | (with_reducible exact LeO.none _)
      | (with_reducible refine LeO.ite ?_ ?_)
      | (with_reducible refine LeO.bind ?_ (fun _ => ?_))
      | exact ih0 _ _ _ _ _ _ _ _ _ _ _ _ _ _ _ _ _ _ _
      | exact ih1 _
      | exact LeO.none _
      | refine LeO.ite ?_ ?_
      | refine LeO.bind ?_ (fun _ => ?_)
set_option maxHeartbeats 8000000 in
set_option maxRecDepth 100000 in
theorem fleet_fits.calls (k : Nat) (A0 : Option Addr) (c0 : Nat) (l0 : List (S54)) (A1 : Option Addr) (c1 : Nat) (l1 : List Int) (r : Int) (w : World) (hr0 : Kd.C k54 w A0 l0.length l0) (hc0 : l0.length ≤ c0) (hr1 : Kd.C (Kd.int .i64) w A1 l1.length l1) (hc1 : l1.length ≤ c1) (h : fleet_fits.f k l0 l1 = some r) :
    Calls Try.prog 59 #[.slice A0 l0.length c0, .slice A1 l1.length c1] w fun e w' => e = .returned (.int .i64 r) ∧ Below w.heap.size w w' := by
 have hu54 := Try.underlying54
 have HR0 := Aside0.mk hr0
 have HC0 := Aside0.mk hc0
 clear hr0 hc0
 have HR1 := Aside0.mk hr1
 have HC1 := Aside0.mk hc1
 clear hr1 hc1
 have HB := Aside0.mk (Below.refl w.heap.size w)
 have H : (if 0 < (l1.length : Int) then (if 0 ≤ (rd l1 0) then (if (rd l1 0) < (l0.length : Int) then (fleet_fits.l0 k l0 l1 l1 (l1.length : Int) 0 ((rd_T54 l0 (rd l1 0)).f0) ((rd_T54 l0 (rd l1 0)).f1) ((rd_T54 l0 (rd l1 0)).f2) ((rd_T54 l0 (rd l1 0)).f3) ((rd_T54 l0 (rd l1 0)).f4) ((rd_T54 l0 (rd l1 0)).f5) ((rd_T54 l0 (rd l1 0)).f6) ((rd_T54 l0 (rd l1 0)).f7) ((rd_T54 l0 (rd l1 0)).f8) ((rd_T54 l0 (rd l1 0)).f9) ((rd_T54 l0 (rd l1 0)).f10) ((rd_T54 l0 (rd l1 0)).f11) ((rd_T54 l0 (rd l1 0)).f12) ((rd_T54 l0 (rd l1 0)).f13)) else (none)) else (none)) else (none)) = some r := h
 clear h
 by_cases c3 : 0 < (l1.length : Int)
 ·rw [if_pos c3] at H
  have c3b0 : decide (0 < (l1.length : Int)) = true := decide_eq_true c3
  have c3b1 : decide (0 < l1.length) = true := decide_eq_true (by omega)
  clear c3
  by_cases c4 : 0 ≤ (rd l1 0)
  ·rw [if_pos c4] at H
   have c4b0 : decide (0 ≤ (rd l1 0)) = true := decide_eq_true c4
   clear c4
   by_cases c5 : (rd l1 0) < (l0.length : Int)
   ·rw [if_pos c5] at H
    have c5b0 : decide ((rd l1 0) < (l0.length : Int)) = true := decide_eq_true c5
    clear c5
    have H' := Aside0.mk H
    clear H
    have p162 : 0 ≤ (0 : Int) := (by omega)
    have q162 : 0 < (l1.length : Int) := of_decide_eq_true (by first | (with_reducible assumption) | assumption)
    obtain ⟨ad162, e162, hx162_0⟩ := Kd.at_int HR1.out 0 p162 q162
    cases e162
    have qi162 : (0 < l1.length) = True := eq_true (by omega)
    (try rw [show ((0 : Int)).toNat = 0 from rfl] at hx162_0)
    (try rw [Addr.add_zero'] at hx162_0)
    replace p162 := eq_true p162
    replace q162 := eq_true q162
    have p163 : 0 ≤ ((rd l1 0) : Int) := of_decide_eq_true (by first | (with_reducible assumption) | assumption)
    have q163 : (rd l1 0) < (l0.length : Int) := of_decide_eq_true (by first | (with_reducible assumption) | assumption)
    obtain ⟨ad163, e163, hx163_0, hx163_1, hx163_2, hx163_3, hx163_4, hx163_5, hx163_6, hx163_7, hx163_8, hx163_9, hx163_10, hx163_11, hx163_12, hx163_13⟩ := at_T54 HR0.out (rd l1 0) p163 q163
    cases e163
    replace p163 := eq_true p163
    replace q163 := eq_true q163
    go_enter Try.func59, Try.ntmps59
    go_wp2_with (first | ((with_reducible refine gate_dst (N := 5) rfl ?_); (try (refine gate_guard (by rfl) ?_; dsimp only)); refine box_event ?hg (N := 5) ?hd (cs := #[.string (⟨#[]⟩ : ByteArray), .int .i64 0, .int .i64 0, .int .i64 0, .int .i64 0, .int .i64 0, .int .i64 0, .int .i64 0, .int .i64 0, .int .i64 0, .int .i64 0, .int .i64 0, .int .i64 0, .bool false]) (t := 54) ?hr ?_; (case hd => rfl); (case hg => rfl); (case hr => first | (go_simp; done) | (go_simp; rfl)); intro gb164 hg w6 hbox hb; have n0_ := Aside0.mk (below_step (by repeat (first | (with_reducible first | exact HB.out | apply below_alloc | apply pw_below_drewN | apply below_drew1) | exact HB.out)) hb); have n1_ := Aside0.mk (hbox); have n2_ := Aside0.mk ((by rw [hg]; exact (below_size (by repeat (first | (with_reducible first | exact HB.out | apply below_alloc | apply pw_below_drewN | apply below_drew1) | exact HB.out))) : w.heap.size ≤ gb164)); have n3_ := Aside0.mk ((by rw [hg]; exact (below_size (by repeat (first | (with_reducible first | exact HB.out | apply below_alloc | apply pw_below_drewN | apply below_drew1) | exact HB.out))) : w.heap.size ≤ gb164)); clear HB; have HB := n0_; have BK164 := n1_; have GW164 := n2_; have GE164 := n3_; clear n0_ n1_ n2_ n3_; clear hb hbox hg; have hcz7_0 : w6.cell? ⟨gb164, 0, none⟩ = some (.string (⟨#[]⟩ : ByteArray)) := (blk_cell BK164.out 0).trans rfl; have hcz7_1 : w6.cell? ⟨gb164, 1, none⟩ = some (.int .i64 0) := (blk_cell BK164.out 1).trans rfl; have hcz7_2 : w6.cell? ⟨gb164, 2, none⟩ = some (.int .i64 0) := (blk_cell BK164.out 2).trans rfl; have hcz7_3 : w6.cell? ⟨gb164, 3, none⟩ = some (.int .i64 0) := (blk_cell BK164.out 3).trans rfl; have hcz7_4 : w6.cell? ⟨gb164, 4, none⟩ = some (.int .i64 0) := (blk_cell BK164.out 4).trans rfl; have hcz7_5 : w6.cell? ⟨gb164, 5, none⟩ = some (.int .i64 0) := (blk_cell BK164.out 5).trans rfl; have hcz7_6 : w6.cell? ⟨gb164, 6, none⟩ = some (.int .i64 0) := (blk_cell BK164.out 6).trans rfl; have hcz7_7 : w6.cell? ⟨gb164, 7, none⟩ = some (.int .i64 0) := (blk_cell BK164.out 7).trans rfl; have hcz7_8 : w6.cell? ⟨gb164, 8, none⟩ = some (.int .i64 0) := (blk_cell BK164.out 8).trans rfl; have hcz7_9 : w6.cell? ⟨gb164, 9, none⟩ = some (.int .i64 0) := (blk_cell BK164.out 9).trans rfl; have hcz7_10 : w6.cell? ⟨gb164, 10, none⟩ = some (.int .i64 0) := (blk_cell BK164.out 10).trans rfl; have hcz7_11 : w6.cell? ⟨gb164, 11, none⟩ = some (.int .i64 0) := (blk_cell BK164.out 11).trans rfl; have hcz7_12 : w6.cell? ⟨gb164, 12, none⟩ = some (.int .i64 0) := (blk_cell BK164.out 12).trans rfl; have hcz7_13 : w6.cell? ⟨gb164, 13, none⟩ = some (.bool false) := (blk_cell BK164.out 13).trans rfl; have hfz7_0 := blk_frozen BK164.out 0; have hfz7_1 := blk_frozen BK164.out 1; have hfz7_2 := blk_frozen BK164.out 2; have hfz7_3 := blk_frozen BK164.out 3; have hfz7_4 := blk_frozen BK164.out 4; have hfz7_5 := blk_frozen BK164.out 5; have hfz7_6 := blk_frozen BK164.out 6; have hfz7_7 := blk_frozen BK164.out 7; have hfz7_8 := blk_frozen BK164.out 8; have hfz7_9 := blk_frozen BK164.out 9; have hfz7_10 := blk_frozen BK164.out 10; have hfz7_11 := blk_frozen BK164.out 11; have hfz7_12 := blk_frozen BK164.out 12; have hfz7_13 := blk_frozen BK164.out 13))
    repeat (go_quiet (first | ((with_reducible refine gate_dst (N := 5) rfl ?_); (try (refine gate_guard (by rfl) ?_; dsimp only)); refine box_event ?hg (N := 5) ?hd (cs := #[.string (⟨#[]⟩ : ByteArray), .int .i64 0, .int .i64 0, .int .i64 0, .int .i64 0, .int .i64 0, .int .i64 0, .int .i64 0, .int .i64 0, .int .i64 0, .int .i64 0, .int .i64 0, .int .i64 0, .bool false]) (t := 54) ?hr ?_; (case hd => rfl); (case hg => rfl); (case hr => first | (go_simp; done) | (go_simp; rfl)); intro gb164 hg w6 hbox hb; have n0_ := Aside0.mk (below_step (by repeat (first | (with_reducible first | exact HB.out | apply below_alloc | apply pw_below_drewN | apply below_drew1) | exact HB.out)) hb); have n1_ := Aside0.mk (hbox); have n2_ := Aside0.mk ((by rw [hg]; exact (below_size (by repeat (first | (with_reducible first | exact HB.out | apply below_alloc | apply pw_below_drewN | apply below_drew1) | exact HB.out))) : w.heap.size ≤ gb164)); have n3_ := Aside0.mk ((by rw [hg]; exact (below_size (by repeat (first | (with_reducible first | exact HB.out | apply below_alloc | apply pw_below_drewN | apply below_drew1) | exact HB.out))) : w.heap.size ≤ gb164)); clear HB; have HB := n0_; have BK164 := n1_; have GW164 := n2_; have GE164 := n3_; clear n0_ n1_ n2_ n3_; clear hb hbox hg; have hcz7_0 : w6.cell? ⟨gb164, 0, none⟩ = some (.string (⟨#[]⟩ : ByteArray)) := (blk_cell BK164.out 0).trans rfl; have hcz7_1 : w6.cell? ⟨gb164, 1, none⟩ = some (.int .i64 0) := (blk_cell BK164.out 1).trans rfl; have hcz7_2 : w6.cell? ⟨gb164, 2, none⟩ = some (.int .i64 0) := (blk_cell BK164.out 2).trans rfl; have hcz7_3 : w6.cell? ⟨gb164, 3, none⟩ = some (.int .i64 0) := (blk_cell BK164.out 3).trans rfl; have hcz7_4 : w6.cell? ⟨gb164, 4, none⟩ = some (.int .i64 0) := (blk_cell BK164.out 4).trans rfl; have hcz7_5 : w6.cell? ⟨gb164, 5, none⟩ = some (.int .i64 0) := (blk_cell BK164.out 5).trans rfl; have hcz7_6 : w6.cell? ⟨gb164, 6, none⟩ = some (.int .i64 0) := (blk_cell BK164.out 6).trans rfl; have hcz7_7 : w6.cell? ⟨gb164, 7, none⟩ = some (.int .i64 0) := (blk_cell BK164.out 7).trans rfl; have hcz7_8 : w6.cell? ⟨gb164, 8, none⟩ = some (.int .i64 0) := (blk_cell BK164.out 8).trans rfl; have hcz7_9 : w6.cell? ⟨gb164, 9, none⟩ = some (.int .i64 0) := (blk_cell BK164.out 9).trans rfl; have hcz7_10 : w6.cell? ⟨gb164, 10, none⟩ = some (.int .i64 0) := (blk_cell BK164.out 10).trans rfl; have hcz7_11 : w6.cell? ⟨gb164, 11, none⟩ = some (.int .i64 0) := (blk_cell BK164.out 11).trans rfl; have hcz7_12 : w6.cell? ⟨gb164, 12, none⟩ = some (.int .i64 0) := (blk_cell BK164.out 12).trans rfl; have hcz7_13 : w6.cell? ⟨gb164, 13, none⟩ = some (.bool false) := (blk_cell BK164.out 13).trans rfl; have hfz7_0 := blk_frozen BK164.out 0; have hfz7_1 := blk_frozen BK164.out 1; have hfz7_2 := blk_frozen BK164.out 2; have hfz7_3 := blk_frozen BK164.out 3; have hfz7_4 := blk_frozen BK164.out 4; have hfz7_5 := blk_frozen BK164.out 5; have hfz7_6 := blk_frozen BK164.out 6; have hfz7_7 := blk_frozen BK164.out 7; have hfz7_8 := blk_frozen BK164.out 8; have hfz7_9 := blk_frozen BK164.out 9; have hfz7_10 := blk_frozen BK164.out 10; have hfz7_11 := blk_frozen BK164.out 11; have hfz7_12 := blk_frozen BK164.out 12; have hfz7_13 := blk_frozen BK164.out 13)); try go_wp2_with (first | ((with_reducible refine gate_dst (N := 5) rfl ?_); (try (refine gate_guard (by rfl) ?_; dsimp only)); refine box_event ?hg (N := 5) ?hd (cs := #[.string (⟨#[]⟩ : ByteArray), .int .i64 0, .int .i64 0, .int .i64 0, .int .i64 0, .int .i64 0, .int .i64 0, .int .i64 0, .int .i64 0, .int .i64 0, .int .i64 0, .int .i64 0, .int .i64 0, .bool false]) (t := 54) ?hr ?_; (case hd => rfl); (case hg => rfl); (case hr => first | (go_simp; done) | (go_simp; rfl)); intro gb164 hg w6 hbox hb; have n0_ := Aside0.mk (below_step (by repeat (first | (with_reducible first | exact HB.out | apply below_alloc | apply pw_below_drewN | apply below_drew1) | exact HB.out)) hb); have n1_ := Aside0.mk (hbox); have n2_ := Aside0.mk ((by rw [hg]; exact (below_size (by repeat (first | (with_reducible first | exact HB.out | apply below_alloc | apply pw_below_drewN | apply below_drew1) | exact HB.out))) : w.heap.size ≤ gb164)); have n3_ := Aside0.mk ((by rw [hg]; exact (below_size (by repeat (first | (with_reducible first | exact HB.out | apply below_alloc | apply pw_below_drewN | apply below_drew1) | exact HB.out))) : w.heap.size ≤ gb164)); clear HB; have HB := n0_; have BK164 := n1_; have GW164 := n2_; have GE164 := n3_; clear n0_ n1_ n2_ n3_; clear hb hbox hg; have hcz7_0 : w6.cell? ⟨gb164, 0, none⟩ = some (.string (⟨#[]⟩ : ByteArray)) := (blk_cell BK164.out 0).trans rfl; have hcz7_1 : w6.cell? ⟨gb164, 1, none⟩ = some (.int .i64 0) := (blk_cell BK164.out 1).trans rfl; have hcz7_2 : w6.cell? ⟨gb164, 2, none⟩ = some (.int .i64 0) := (blk_cell BK164.out 2).trans rfl; have hcz7_3 : w6.cell? ⟨gb164, 3, none⟩ = some (.int .i64 0) := (blk_cell BK164.out 3).trans rfl; have hcz7_4 : w6.cell? ⟨gb164, 4, none⟩ = some (.int .i64 0) := (blk_cell BK164.out 4).trans rfl; have hcz7_5 : w6.cell? ⟨gb164, 5, none⟩ = some (.int .i64 0) := (blk_cell BK164.out 5).trans rfl; have hcz7_6 : w6.cell? ⟨gb164, 6, none⟩ = some (.int .i64 0) := (blk_cell BK164.out 6).trans rfl; have hcz7_7 : w6.cell? ⟨gb164, 7, none⟩ = some (.int .i64 0) := (blk_cell BK164.out 7).trans rfl; have hcz7_8 : w6.cell? ⟨gb164, 8, none⟩ = some (.int .i64 0) := (blk_cell BK164.out 8).trans rfl; have hcz7_9 : w6.cell? ⟨gb164, 9, none⟩ = some (.int .i64 0) := (blk_cell BK164.out 9).trans rfl; have hcz7_10 : w6.cell? ⟨gb164, 10, none⟩ = some (.int .i64 0) := (blk_cell BK164.out 10).trans rfl; have hcz7_11 : w6.cell? ⟨gb164, 11, none⟩ = some (.int .i64 0) := (blk_cell BK164.out 11).trans rfl; have hcz7_12 : w6.cell? ⟨gb164, 12, none⟩ = some (.int .i64 0) := (blk_cell BK164.out 12).trans rfl; have hcz7_13 : w6.cell? ⟨gb164, 13, none⟩ = some (.bool false) := (blk_cell BK164.out 13).trans rfl; have hfz7_0 := blk_frozen BK164.out 0; have hfz7_1 := blk_frozen BK164.out 1; have hfz7_2 := blk_frozen BK164.out 2; have hfz7_3 := blk_frozen BK164.out 3; have hfz7_4 := blk_frozen BK164.out 4; have hfz7_5 := blk_frozen BK164.out 5; have hfz7_6 := blk_frozen BK164.out 6; have hfz7_7 := blk_frozen BK164.out 7; have hfz7_8 := blk_frozen BK164.out 8; have hfz7_9 := blk_frozen BK164.out 9; have hfz7_10 := blk_frozen BK164.out 10; have hfz7_11 := blk_frozen BK164.out 11; have hfz7_12 := blk_frozen BK164.out 12; have hfz7_13 := blk_frozen BK164.out 13)))
    go_loopg [16] k (fun kq v16 w' => ∃ (x16_1 : Int), v16 = .int .i64 x16_1 ∧ Aside0 (fleet_fits.l0 kq l0 l1 l1 (l1.length : Int) x16_1 ((rd_T54 l0 (rd l1 0)).f0) ((rd_T54 l0 (rd l1 0)).f1) ((rd_T54 l0 (rd l1 0)).f2) ((rd_T54 l0 (rd l1 0)).f3) ((rd_T54 l0 (rd l1 0)).f4) ((rd_T54 l0 (rd l1 0)).f5) ((rd_T54 l0 (rd l1 0)).f6) ((rd_T54 l0 (rd l1 0)).f7) ((rd_T54 l0 (rd l1 0)).f8) ((rd_T54 l0 (rd l1 0)).f9) ((rd_T54 l0 (rd l1 0)).f10) ((rd_T54 l0 (rd l1 0)).f11) ((rd_T54 l0 (rd l1 0)).f12) ((rd_T54 l0 (rd l1 0)).f13) = some r) ∧ Aside0 (kq ≤ k) ∧ Aside0 (w'.heap[gb164]? = some (.cells #[.string ((rd_T54 l0 (rd l1 0)).f0), .int .i64 ((rd_T54 l0 (rd l1 0)).f1), .int .i64 ((rd_T54 l0 (rd l1 0)).f2), .int .i64 ((rd_T54 l0 (rd l1 0)).f3), .int .i64 ((rd_T54 l0 (rd l1 0)).f4), .int .i64 ((rd_T54 l0 (rd l1 0)).f5), .int .i64 ((rd_T54 l0 (rd l1 0)).f6), .int .i64 ((rd_T54 l0 (rd l1 0)).f7), .int .i64 ((rd_T54 l0 (rd l1 0)).f8), .int .i64 ((rd_T54 l0 (rd l1 0)).f9), .int .i64 ((rd_T54 l0 (rd l1 0)).f10), .int .i64 ((rd_T54 l0 (rd l1 0)).f11), .int .i64 ((rd_T54 l0 (rd l1 0)).f12), .bool ((rd_T54 l0 (rd l1 0)).f13)] 54 (0, 0))) ∧ Aside0 (Below w.heap.size w w'))
    case atStart => exact ⟨(0), (by first | rfl | (simp; done) | (simp [*]; done) | (refine congrArg (Value.int .i64) ?_; unfold wrap64; omega) | (simp only [shl_one_small _ (by assumption) (by omega)]; done) | (simp [*]; rw [shl_one_small _ (by assumption) (by omega)]; done)), H', ⟨Nat.le_refl _⟩, ⟨by (with_reducible repeat (first | refine blk_drewN ?_ _ | refine blk_drew ?_ | refine blk_alloc ?_ _)); refine blk_put (cs := #[.string ((rd_T54 l0 (rd l1 0)).f0), .int .i64 ((rd_T54 l0 (rd l1 0)).f1), .int .i64 ((rd_T54 l0 (rd l1 0)).f2), .int .i64 ((rd_T54 l0 (rd l1 0)).f3), .int .i64 ((rd_T54 l0 (rd l1 0)).f4), .int .i64 ((rd_T54 l0 (rd l1 0)).f5), .int .i64 ((rd_T54 l0 (rd l1 0)).f6), .int .i64 ((rd_T54 l0 (rd l1 0)).f7), .int .i64 ((rd_T54 l0 (rd l1 0)).f8), .int .i64 ((rd_T54 l0 (rd l1 0)).f9), .int .i64 ((rd_T54 l0 (rd l1 0)).f10), .int .i64 ((rd_T54 l0 (rd l1 0)).f11), .int .i64 ((rd_T54 l0 (rd l1 0)).f12), .bool false]) ?_ 13 _ rfl; (with_reducible repeat (first | refine blk_drewN ?_ _ | refine blk_drew ?_ | refine blk_alloc ?_ _)); refine blk_put (cs := #[.string ((rd_T54 l0 (rd l1 0)).f0), .int .i64 ((rd_T54 l0 (rd l1 0)).f1), .int .i64 ((rd_T54 l0 (rd l1 0)).f2), .int .i64 ((rd_T54 l0 (rd l1 0)).f3), .int .i64 ((rd_T54 l0 (rd l1 0)).f4), .int .i64 ((rd_T54 l0 (rd l1 0)).f5), .int .i64 ((rd_T54 l0 (rd l1 0)).f6), .int .i64 ((rd_T54 l0 (rd l1 0)).f7), .int .i64 ((rd_T54 l0 (rd l1 0)).f8), .int .i64 ((rd_T54 l0 (rd l1 0)).f9), .int .i64 ((rd_T54 l0 (rd l1 0)).f10), .int .i64 ((rd_T54 l0 (rd l1 0)).f11), .int .i64 0, .bool false]) ?_ 12 _ rfl; (with_reducible repeat (first | refine blk_drewN ?_ _ | refine blk_drew ?_ | refine blk_alloc ?_ _)); refine blk_put (cs := #[.string ((rd_T54 l0 (rd l1 0)).f0), .int .i64 ((rd_T54 l0 (rd l1 0)).f1), .int .i64 ((rd_T54 l0 (rd l1 0)).f2), .int .i64 ((rd_T54 l0 (rd l1 0)).f3), .int .i64 ((rd_T54 l0 (rd l1 0)).f4), .int .i64 ((rd_T54 l0 (rd l1 0)).f5), .int .i64 ((rd_T54 l0 (rd l1 0)).f6), .int .i64 ((rd_T54 l0 (rd l1 0)).f7), .int .i64 ((rd_T54 l0 (rd l1 0)).f8), .int .i64 ((rd_T54 l0 (rd l1 0)).f9), .int .i64 ((rd_T54 l0 (rd l1 0)).f10), .int .i64 0, .int .i64 0, .bool false]) ?_ 11 _ rfl; (with_reducible repeat (first | refine blk_drewN ?_ _ | refine blk_drew ?_ | refine blk_alloc ?_ _)); refine blk_put (cs := #[.string ((rd_T54 l0 (rd l1 0)).f0), .int .i64 ((rd_T54 l0 (rd l1 0)).f1), .int .i64 ((rd_T54 l0 (rd l1 0)).f2), .int .i64 ((rd_T54 l0 (rd l1 0)).f3), .int .i64 ((rd_T54 l0 (rd l1 0)).f4), .int .i64 ((rd_T54 l0 (rd l1 0)).f5), .int .i64 ((rd_T54 l0 (rd l1 0)).f6), .int .i64 ((rd_T54 l0 (rd l1 0)).f7), .int .i64 ((rd_T54 l0 (rd l1 0)).f8), .int .i64 ((rd_T54 l0 (rd l1 0)).f9), .int .i64 0, .int .i64 0, .int .i64 0, .bool false]) ?_ 10 _ rfl; (with_reducible repeat (first | refine blk_drewN ?_ _ | refine blk_drew ?_ | refine blk_alloc ?_ _)); refine blk_put (cs := #[.string ((rd_T54 l0 (rd l1 0)).f0), .int .i64 ((rd_T54 l0 (rd l1 0)).f1), .int .i64 ((rd_T54 l0 (rd l1 0)).f2), .int .i64 ((rd_T54 l0 (rd l1 0)).f3), .int .i64 ((rd_T54 l0 (rd l1 0)).f4), .int .i64 ((rd_T54 l0 (rd l1 0)).f5), .int .i64 ((rd_T54 l0 (rd l1 0)).f6), .int .i64 ((rd_T54 l0 (rd l1 0)).f7), .int .i64 ((rd_T54 l0 (rd l1 0)).f8), .int .i64 0, .int .i64 0, .int .i64 0, .int .i64 0, .bool false]) ?_ 9 _ rfl; (with_reducible repeat (first | refine blk_drewN ?_ _ | refine blk_drew ?_ | refine blk_alloc ?_ _)); refine blk_put (cs := #[.string ((rd_T54 l0 (rd l1 0)).f0), .int .i64 ((rd_T54 l0 (rd l1 0)).f1), .int .i64 ((rd_T54 l0 (rd l1 0)).f2), .int .i64 ((rd_T54 l0 (rd l1 0)).f3), .int .i64 ((rd_T54 l0 (rd l1 0)).f4), .int .i64 ((rd_T54 l0 (rd l1 0)).f5), .int .i64 ((rd_T54 l0 (rd l1 0)).f6), .int .i64 ((rd_T54 l0 (rd l1 0)).f7), .int .i64 0, .int .i64 0, .int .i64 0, .int .i64 0, .int .i64 0, .bool false]) ?_ 8 _ rfl; (with_reducible repeat (first | refine blk_drewN ?_ _ | refine blk_drew ?_ | refine blk_alloc ?_ _)); refine blk_put (cs := #[.string ((rd_T54 l0 (rd l1 0)).f0), .int .i64 ((rd_T54 l0 (rd l1 0)).f1), .int .i64 ((rd_T54 l0 (rd l1 0)).f2), .int .i64 ((rd_T54 l0 (rd l1 0)).f3), .int .i64 ((rd_T54 l0 (rd l1 0)).f4), .int .i64 ((rd_T54 l0 (rd l1 0)).f5), .int .i64 ((rd_T54 l0 (rd l1 0)).f6), .int .i64 0, .int .i64 0, .int .i64 0, .int .i64 0, .int .i64 0, .int .i64 0, .bool false]) ?_ 7 _ rfl; (with_reducible repeat (first | refine blk_drewN ?_ _ | refine blk_drew ?_ | refine blk_alloc ?_ _)); refine blk_put (cs := #[.string ((rd_T54 l0 (rd l1 0)).f0), .int .i64 ((rd_T54 l0 (rd l1 0)).f1), .int .i64 ((rd_T54 l0 (rd l1 0)).f2), .int .i64 ((rd_T54 l0 (rd l1 0)).f3), .int .i64 ((rd_T54 l0 (rd l1 0)).f4), .int .i64 ((rd_T54 l0 (rd l1 0)).f5), .int .i64 0, .int .i64 0, .int .i64 0, .int .i64 0, .int .i64 0, .int .i64 0, .int .i64 0, .bool false]) ?_ 6 _ rfl; (with_reducible repeat (first | refine blk_drewN ?_ _ | refine blk_drew ?_ | refine blk_alloc ?_ _)); refine blk_put (cs := #[.string ((rd_T54 l0 (rd l1 0)).f0), .int .i64 ((rd_T54 l0 (rd l1 0)).f1), .int .i64 ((rd_T54 l0 (rd l1 0)).f2), .int .i64 ((rd_T54 l0 (rd l1 0)).f3), .int .i64 ((rd_T54 l0 (rd l1 0)).f4), .int .i64 0, .int .i64 0, .int .i64 0, .int .i64 0, .int .i64 0, .int .i64 0, .int .i64 0, .int .i64 0, .bool false]) ?_ 5 _ rfl; (with_reducible repeat (first | refine blk_drewN ?_ _ | refine blk_drew ?_ | refine blk_alloc ?_ _)); refine blk_put (cs := #[.string ((rd_T54 l0 (rd l1 0)).f0), .int .i64 ((rd_T54 l0 (rd l1 0)).f1), .int .i64 ((rd_T54 l0 (rd l1 0)).f2), .int .i64 ((rd_T54 l0 (rd l1 0)).f3), .int .i64 0, .int .i64 0, .int .i64 0, .int .i64 0, .int .i64 0, .int .i64 0, .int .i64 0, .int .i64 0, .int .i64 0, .bool false]) ?_ 4 _ rfl; (with_reducible repeat (first | refine blk_drewN ?_ _ | refine blk_drew ?_ | refine blk_alloc ?_ _)); refine blk_put (cs := #[.string ((rd_T54 l0 (rd l1 0)).f0), .int .i64 ((rd_T54 l0 (rd l1 0)).f1), .int .i64 ((rd_T54 l0 (rd l1 0)).f2), .int .i64 0, .int .i64 0, .int .i64 0, .int .i64 0, .int .i64 0, .int .i64 0, .int .i64 0, .int .i64 0, .int .i64 0, .int .i64 0, .bool false]) ?_ 3 _ rfl; (with_reducible repeat (first | refine blk_drewN ?_ _ | refine blk_drew ?_ | refine blk_alloc ?_ _)); refine blk_put (cs := #[.string ((rd_T54 l0 (rd l1 0)).f0), .int .i64 ((rd_T54 l0 (rd l1 0)).f1), .int .i64 0, .int .i64 0, .int .i64 0, .int .i64 0, .int .i64 0, .int .i64 0, .int .i64 0, .int .i64 0, .int .i64 0, .int .i64 0, .int .i64 0, .bool false]) ?_ 2 _ rfl; (with_reducible repeat (first | refine blk_drewN ?_ _ | refine blk_drew ?_ | refine blk_alloc ?_ _)); refine blk_put (cs := #[.string ((rd_T54 l0 (rd l1 0)).f0), .int .i64 0, .int .i64 0, .int .i64 0, .int .i64 0, .int .i64 0, .int .i64 0, .int .i64 0, .int .i64 0, .int .i64 0, .int .i64 0, .int .i64 0, .int .i64 0, .bool false]) ?_ 1 _ rfl; (with_reducible repeat (first | refine blk_drewN ?_ _ | refine blk_drew ?_ | refine blk_alloc ?_ _)); refine blk_put (cs := #[.string (⟨#[]⟩ : ByteArray), .int .i64 0, .int .i64 0, .int .i64 0, .int .i64 0, .int .i64 0, .int .i64 0, .int .i64 0, .int .i64 0, .int .i64 0, .int .i64 0, .int .i64 0, .int .i64 0, .bool false]) ?_ 0 _ rfl; (with_reducible repeat (first | refine blk_drewN ?_ _ | refine blk_drew ?_ | refine blk_alloc ?_ _)); exact BK164.out⟩, ⟨by repeat (first | (with_reducible first | exact HB.out | apply below_alloc | apply pw_below_drewN | apply below_drew1 | refine below_set ?_ GE164.out) | exact HB.out)⟩⟩
    case round =>
     clear H'
     try clear c1
     try clear c3
     try clear c3b0
     try clear c3b1
     try clear c4
     try clear c4b0
     try clear c5
     try clear c5b0
     try clear hcz7_0
     try clear hcz7_1
     try clear hcz7_10
     try clear hcz7_11
     try clear hcz7_12
     try clear hcz7_13
     try clear hcz7_2
     try clear hcz7_3
     try clear hcz7_4
     try clear hcz7_5
     try clear hcz7_6
     try clear hcz7_7
     try clear hcz7_8
     try clear hcz7_9
     try clear hfz7_0
     try clear hfz7_1
     try clear hfz7_10
     try clear hfz7_11
     try clear hfz7_12
     try clear hfz7_13
     try clear hfz7_2
     try clear hfz7_3
     try clear hfz7_4
     try clear hfz7_5
     try clear hfz7_6
     try clear hfz7_7
     try clear hfz7_8
     try clear hfz7_9
     try clear hx162_0
     try clear hx163_0
     try clear hx163_1
     try clear hx163_10
     try clear hx163_11
     try clear hx163_12
     try clear hx163_13
     try clear hx163_2
     try clear hx163_3
     try clear hx163_4
     try clear hx163_5
     try clear hx163_6
     try clear hx163_7
     try clear hx163_8
     try clear hx163_9
     try clear p162
     try clear p163
     try clear q162
     try clear q163
     obtain ⟨x16_1, rfl, HA, HK1, BK164, HB⟩ := hrel
     cases gk with
     | zero => exact absurd HA.out (by simp [fleet_fits.l0])
     | succ k1 =>
      have H := HA.out
      clear HA
      simp only [fleet_fits.l0] at H
      by_cases c8 : x16_1 < (l1.length : Int)
      ·rw [if_pos c8] at H
       have c8b0 : decide (x16_1 < (l1.length : Int)) = true := decide_eq_true c8
       clear c8
       by_cases c9 : 0 ≤ x16_1
       ·rw [if_pos c9] at H
        have c9b0 : decide (0 ≤ x16_1) = true := decide_eq_true c9
        clear c9
        by_cases c10 : x16_1 < (l1.length : Int)
        ·rw [if_pos c10] at H
         have c10b0 : decide (x16_1 < (l1.length : Int)) = true := decide_eq_true c10
         clear c10
         by_cases c11 : 0 ≤ (rd l1 x16_1)
         ·rw [if_pos c11] at H
          have c11b0 : decide (0 ≤ (rd l1 x16_1)) = true := decide_eq_true c11
          clear c11
          by_cases c12 : (rd l1 x16_1) < (l0.length : Int)
          ·rw [if_pos c12] at H
           have c12b0 : decide ((rd l1 x16_1) < (l0.length : Int)) = true := decide_eq_true c12
           clear c12
           by_cases c13 : ((rd_T54 l0 (rd l1 x16_1)).f1) = ((rd_T54 l0 (rd l1 0)).f1)
           ·rw [if_pos c13] at H
            have c13b0 : (((rd_T54 l0 (rd l1 x16_1)).f1) == ((rd_T54 l0 (rd l1 0)).f1)) = true := beq_iff_eq.mpr c13
            have c13b1 : (((rd_T54 l0 (rd l1 x16_1)).f1) != ((rd_T54 l0 (rd l1 0)).f1)) = false := bne_eq_false_iff_eq.mpr c13
            clear c13
            have H' := Aside0.mk H
            clear H
            have p165 : 0 ≤ (x16_1 : Int) := of_decide_eq_true (by first | (with_reducible assumption) | assumption)
            have q165 : x16_1 < (l1.length : Int) := of_decide_eq_true (by first | (with_reducible assumption) | assumption)
            obtain ⟨ad165, e165, hx165_0⟩ := Kd.at_int HR1.out x16_1 p165 q165
            obtain rfl : ad162 = ad165 := (by injection e165)
            replace hx165_0 := (HB.out.cell (World.block_lt_of_cell? w _ hx165_0)).trans hx165_0
            replace p165 := eq_true p165
            replace q165 := eq_true q165
            have p166 : 0 ≤ ((rd l1 x16_1) : Int) := of_decide_eq_true (by first | (with_reducible assumption) | assumption)
            have q166 : (rd l1 x16_1) < (l0.length : Int) := of_decide_eq_true (by first | (with_reducible assumption) | assumption)
            obtain ⟨ad166, e166, hx166_0, hx166_1, hx166_2, hx166_3, hx166_4, hx166_5, hx166_6, hx166_7, hx166_8, hx166_9, hx166_10, hx166_11, hx166_12, hx166_13⟩ := at_T54 HR0.out (rd l1 x16_1) p166 q166
            obtain rfl : ad163 = ad166 := (by injection e166)
            replace hx166_0 := (HB.out.cell (World.block_lt_of_cell? w _ hx166_0)).trans hx166_0
            replace hx166_1 := (HB.out.cell (World.block_lt_of_cell? w _ hx166_1)).trans hx166_1
            replace hx166_2 := (HB.out.cell (World.block_lt_of_cell? w _ hx166_2)).trans hx166_2
            replace hx166_3 := (HB.out.cell (World.block_lt_of_cell? w _ hx166_3)).trans hx166_3
            replace hx166_4 := (HB.out.cell (World.block_lt_of_cell? w _ hx166_4)).trans hx166_4
            replace hx166_5 := (HB.out.cell (World.block_lt_of_cell? w _ hx166_5)).trans hx166_5
            replace hx166_6 := (HB.out.cell (World.block_lt_of_cell? w _ hx166_6)).trans hx166_6
            replace hx166_7 := (HB.out.cell (World.block_lt_of_cell? w _ hx166_7)).trans hx166_7
            replace hx166_8 := (HB.out.cell (World.block_lt_of_cell? w _ hx166_8)).trans hx166_8
            replace hx166_9 := (HB.out.cell (World.block_lt_of_cell? w _ hx166_9)).trans hx166_9
            replace hx166_10 := (HB.out.cell (World.block_lt_of_cell? w _ hx166_10)).trans hx166_10
            replace hx166_11 := (HB.out.cell (World.block_lt_of_cell? w _ hx166_11)).trans hx166_11
            replace hx166_12 := (HB.out.cell (World.block_lt_of_cell? w _ hx166_12)).trans hx166_12
            replace hx166_13 := (HB.out.cell (World.block_lt_of_cell? w _ hx166_13)).trans hx166_13
            replace p166 := eq_true p166
            replace q166 := eq_true q166
            have hcz14_0 : wr.cell? ⟨gb164, 0, none⟩ = some (.string ((rd_T54 l0 (rd l1 0)).f0)) := (blk_cell BK164.out 0).trans rfl
            have hcz14_1 : wr.cell? ⟨gb164, 1, none⟩ = some (.int .i64 ((rd_T54 l0 (rd l1 0)).f1)) := (blk_cell BK164.out 1).trans rfl
            have hcz14_2 : wr.cell? ⟨gb164, 2, none⟩ = some (.int .i64 ((rd_T54 l0 (rd l1 0)).f2)) := (blk_cell BK164.out 2).trans rfl
            have hcz14_3 : wr.cell? ⟨gb164, 3, none⟩ = some (.int .i64 ((rd_T54 l0 (rd l1 0)).f3)) := (blk_cell BK164.out 3).trans rfl
            have hcz14_4 : wr.cell? ⟨gb164, 4, none⟩ = some (.int .i64 ((rd_T54 l0 (rd l1 0)).f4)) := (blk_cell BK164.out 4).trans rfl
            have hcz14_5 : wr.cell? ⟨gb164, 5, none⟩ = some (.int .i64 ((rd_T54 l0 (rd l1 0)).f5)) := (blk_cell BK164.out 5).trans rfl
            have hcz14_6 : wr.cell? ⟨gb164, 6, none⟩ = some (.int .i64 ((rd_T54 l0 (rd l1 0)).f6)) := (blk_cell BK164.out 6).trans rfl
            have hcz14_7 : wr.cell? ⟨gb164, 7, none⟩ = some (.int .i64 ((rd_T54 l0 (rd l1 0)).f7)) := (blk_cell BK164.out 7).trans rfl
            have hcz14_8 : wr.cell? ⟨gb164, 8, none⟩ = some (.int .i64 ((rd_T54 l0 (rd l1 0)).f8)) := (blk_cell BK164.out 8).trans rfl
            have hcz14_9 : wr.cell? ⟨gb164, 9, none⟩ = some (.int .i64 ((rd_T54 l0 (rd l1 0)).f9)) := (blk_cell BK164.out 9).trans rfl
            have hcz14_10 : wr.cell? ⟨gb164, 10, none⟩ = some (.int .i64 ((rd_T54 l0 (rd l1 0)).f10)) := (blk_cell BK164.out 10).trans rfl
            have hcz14_11 : wr.cell? ⟨gb164, 11, none⟩ = some (.int .i64 ((rd_T54 l0 (rd l1 0)).f11)) := (blk_cell BK164.out 11).trans rfl
            have hcz14_12 : wr.cell? ⟨gb164, 12, none⟩ = some (.int .i64 ((rd_T54 l0 (rd l1 0)).f12)) := (blk_cell BK164.out 12).trans rfl
            have hcz14_13 : wr.cell? ⟨gb164, 13, none⟩ = some (.bool ((rd_T54 l0 (rd l1 0)).f13)) := (blk_cell BK164.out 13).trans rfl
            have hfz14_0 := blk_frozen BK164.out 0
            have hfz14_1 := blk_frozen BK164.out 1
            have hfz14_2 := blk_frozen BK164.out 2
            have hfz14_3 := blk_frozen BK164.out 3
            have hfz14_4 := blk_frozen BK164.out 4
            have hfz14_5 := blk_frozen BK164.out 5
            have hfz14_6 := blk_frozen BK164.out 6
            have hfz14_7 := blk_frozen BK164.out 7
            have hfz14_8 := blk_frozen BK164.out 8
            have hfz14_9 := blk_frozen BK164.out 9
            have hfz14_10 := blk_frozen BK164.out 10
            have hfz14_11 := blk_frozen BK164.out 11
            have hfz14_12 := blk_frozen BK164.out 12
            have hfz14_13 := blk_frozen BK164.out 13
            go_wp2
            repeat (go_quiet (fail); try go_wp2)
            go_roundg k1
            case measure => have := HK1.out; omega
            case rel => exact ⟨(wrap64 (x16_1 + 1)), (by first | rfl | (simp; done) | (simp [*]; done) | (refine congrArg (Value.int .i64) ?_; unfold wrap64; omega) | (simp only [shl_one_small _ (by assumption) (by omega)]; done) | (simp [*]; rw [shl_one_small _ (by assumption) (by omega)]; done)), H', ⟨by have := HK1.out; omega⟩, ⟨by (with_reducible repeat (first | refine blk_drewN ?_ _ | refine blk_drew ?_ | refine blk_alloc ?_ _)); exact BK164.out⟩, ⟨by repeat (first | (with_reducible first | exact HB.out | apply below_alloc | apply pw_below_drewN | apply below_drew1 | refine below_set ?_ GE164.out) | exact HB.out)⟩⟩
           ·rw [if_neg c13] at H
            have c13b0 : (((rd_T54 l0 (rd l1 x16_1)).f1) == ((rd_T54 l0 (rd l1 0)).f1)) = false := beq_eq_false_iff_ne.mpr c13
            have c13b1 : (((rd_T54 l0 (rd l1 x16_1)).f1) != ((rd_T54 l0 (rd l1 0)).f1)) = true := bne_iff_ne.mpr c13
            obtain rfl := Option.some.inj H
            have p165 : 0 ≤ (x16_1 : Int) := of_decide_eq_true (by first | (with_reducible assumption) | assumption)
            have q165 : x16_1 < (l1.length : Int) := of_decide_eq_true (by first | (with_reducible assumption) | assumption)
            obtain ⟨ad165, e165, hx165_0⟩ := Kd.at_int HR1.out x16_1 p165 q165
            obtain rfl : ad162 = ad165 := (by injection e165)
            replace hx165_0 := (HB.out.cell (World.block_lt_of_cell? w _ hx165_0)).trans hx165_0
            replace p165 := eq_true p165
            replace q165 := eq_true q165
            have p166 : 0 ≤ ((rd l1 x16_1) : Int) := of_decide_eq_true (by first | (with_reducible assumption) | assumption)
            have q166 : (rd l1 x16_1) < (l0.length : Int) := of_decide_eq_true (by first | (with_reducible assumption) | assumption)
            obtain ⟨ad166, e166, hx166_0, hx166_1, hx166_2, hx166_3, hx166_4, hx166_5, hx166_6, hx166_7, hx166_8, hx166_9, hx166_10, hx166_11, hx166_12, hx166_13⟩ := at_T54 HR0.out (rd l1 x16_1) p166 q166
            obtain rfl : ad163 = ad166 := (by injection e166)
            replace hx166_0 := (HB.out.cell (World.block_lt_of_cell? w _ hx166_0)).trans hx166_0
            replace hx166_1 := (HB.out.cell (World.block_lt_of_cell? w _ hx166_1)).trans hx166_1
            replace hx166_2 := (HB.out.cell (World.block_lt_of_cell? w _ hx166_2)).trans hx166_2
            replace hx166_3 := (HB.out.cell (World.block_lt_of_cell? w _ hx166_3)).trans hx166_3
            replace hx166_4 := (HB.out.cell (World.block_lt_of_cell? w _ hx166_4)).trans hx166_4
            replace hx166_5 := (HB.out.cell (World.block_lt_of_cell? w _ hx166_5)).trans hx166_5
            replace hx166_6 := (HB.out.cell (World.block_lt_of_cell? w _ hx166_6)).trans hx166_6
            replace hx166_7 := (HB.out.cell (World.block_lt_of_cell? w _ hx166_7)).trans hx166_7
            replace hx166_8 := (HB.out.cell (World.block_lt_of_cell? w _ hx166_8)).trans hx166_8
            replace hx166_9 := (HB.out.cell (World.block_lt_of_cell? w _ hx166_9)).trans hx166_9
            replace hx166_10 := (HB.out.cell (World.block_lt_of_cell? w _ hx166_10)).trans hx166_10
            replace hx166_11 := (HB.out.cell (World.block_lt_of_cell? w _ hx166_11)).trans hx166_11
            replace hx166_12 := (HB.out.cell (World.block_lt_of_cell? w _ hx166_12)).trans hx166_12
            replace hx166_13 := (HB.out.cell (World.block_lt_of_cell? w _ hx166_13)).trans hx166_13
            replace p166 := eq_true p166
            replace q166 := eq_true q166
            have hcz15_0 : wr.cell? ⟨gb164, 0, none⟩ = some (.string ((rd_T54 l0 (rd l1 0)).f0)) := (blk_cell BK164.out 0).trans rfl
            have hcz15_1 : wr.cell? ⟨gb164, 1, none⟩ = some (.int .i64 ((rd_T54 l0 (rd l1 0)).f1)) := (blk_cell BK164.out 1).trans rfl
            have hcz15_2 : wr.cell? ⟨gb164, 2, none⟩ = some (.int .i64 ((rd_T54 l0 (rd l1 0)).f2)) := (blk_cell BK164.out 2).trans rfl
            have hcz15_3 : wr.cell? ⟨gb164, 3, none⟩ = some (.int .i64 ((rd_T54 l0 (rd l1 0)).f3)) := (blk_cell BK164.out 3).trans rfl
            have hcz15_4 : wr.cell? ⟨gb164, 4, none⟩ = some (.int .i64 ((rd_T54 l0 (rd l1 0)).f4)) := (blk_cell BK164.out 4).trans rfl
            have hcz15_5 : wr.cell? ⟨gb164, 5, none⟩ = some (.int .i64 ((rd_T54 l0 (rd l1 0)).f5)) := (blk_cell BK164.out 5).trans rfl
            have hcz15_6 : wr.cell? ⟨gb164, 6, none⟩ = some (.int .i64 ((rd_T54 l0 (rd l1 0)).f6)) := (blk_cell BK164.out 6).trans rfl
            have hcz15_7 : wr.cell? ⟨gb164, 7, none⟩ = some (.int .i64 ((rd_T54 l0 (rd l1 0)).f7)) := (blk_cell BK164.out 7).trans rfl
            have hcz15_8 : wr.cell? ⟨gb164, 8, none⟩ = some (.int .i64 ((rd_T54 l0 (rd l1 0)).f8)) := (blk_cell BK164.out 8).trans rfl
            have hcz15_9 : wr.cell? ⟨gb164, 9, none⟩ = some (.int .i64 ((rd_T54 l0 (rd l1 0)).f9)) := (blk_cell BK164.out 9).trans rfl
            have hcz15_10 : wr.cell? ⟨gb164, 10, none⟩ = some (.int .i64 ((rd_T54 l0 (rd l1 0)).f10)) := (blk_cell BK164.out 10).trans rfl
            have hcz15_11 : wr.cell? ⟨gb164, 11, none⟩ = some (.int .i64 ((rd_T54 l0 (rd l1 0)).f11)) := (blk_cell BK164.out 11).trans rfl
            have hcz15_12 : wr.cell? ⟨gb164, 12, none⟩ = some (.int .i64 ((rd_T54 l0 (rd l1 0)).f12)) := (blk_cell BK164.out 12).trans rfl
            have hcz15_13 : wr.cell? ⟨gb164, 13, none⟩ = some (.bool ((rd_T54 l0 (rd l1 0)).f13)) := (blk_cell BK164.out 13).trans rfl
            have hfz15_0 := blk_frozen BK164.out 0
            have hfz15_1 := blk_frozen BK164.out 1
            have hfz15_2 := blk_frozen BK164.out 2
            have hfz15_3 := blk_frozen BK164.out 3
            have hfz15_4 := blk_frozen BK164.out 4
            have hfz15_5 := blk_frozen BK164.out 5
            have hfz15_6 := blk_frozen BK164.out 6
            have hfz15_7 := blk_frozen BK164.out 7
            have hfz15_8 := blk_frozen BK164.out 8
            have hfz15_9 := blk_frozen BK164.out 9
            have hfz15_10 := blk_frozen BK164.out 10
            have hfz15_11 := blk_frozen BK164.out 11
            have hfz15_12 := blk_frozen BK164.out 12
            have hfz15_13 := blk_frozen BK164.out 13
            go_wp2
            repeat (go_quiet (fail); try go_wp2)
            go_ret
            exact ⟨by first | rfl | (simp [errW_none, errW_some] <;> rfl) | (simp [*, errW_none, errW_some] <;> rfl), by repeat (first | (with_reducible first | exact HB.out | apply below_alloc | apply pw_below_drewN | apply below_drew1 | refine below_set ?_ GE164.out) | exact HB.out)⟩
          ·rw [if_neg c12] at H
           exact absurd H (by simp)
         ·rw [if_neg c11] at H
          exact absurd H (by simp)
        ·rw [if_neg c10] at H
         exact absurd H (by simp)
       ·rw [if_neg c9] at H
        exact absurd H (by simp)
      ·rw [if_neg c8] at H
       have c8b0 : decide (x16_1 < (l1.length : Int)) = false := decide_eq_false c8
       clear c8
       have HC16 := Aside0.mk H
       clear H
       go_upto_region 8 with (fail)
       repeat (go_quiet (fail); go_upto_region 8 with (fail))
       go_cut [46] (fun v46 wc => ∃ (kq : Nat) (x46_15 : Bool), v46 = .bool x46_15 ∧ Aside0 (fleet_fits.j1 kq x46_15 = some r) ∧ Aside0 (kq ≤ k1) ∧ Aside0 (wc.heap[gb164]? = some (.cells #[.string ((rd_T54 l0 (rd l1 0)).f0), .int .i64 ((rd_T54 l0 (rd l1 0)).f1), .int .i64 ((rd_T54 l0 (rd l1 0)).f2), .int .i64 ((rd_T54 l0 (rd l1 0)).f3), .int .i64 ((rd_T54 l0 (rd l1 0)).f4), .int .i64 ((rd_T54 l0 (rd l1 0)).f5), .int .i64 ((rd_T54 l0 (rd l1 0)).f6), .int .i64 ((rd_T54 l0 (rd l1 0)).f7), .int .i64 ((rd_T54 l0 (rd l1 0)).f8), .int .i64 ((rd_T54 l0 (rd l1 0)).f9), .int .i64 ((rd_T54 l0 (rd l1 0)).f10), .int .i64 ((rd_T54 l0 (rd l1 0)).f11), .int .i64 ((rd_T54 l0 (rd l1 0)).f12), .bool ((rd_T54 l0 (rd l1 0)).f13)] 54 (0, 0))) ∧ Aside0 (Below w.heap.size w wc))
       case first =>
        have H := HC16.out
        clear HC16
        by_cases c17 : ((rd_T54 l0 (rd l1 0)).f1) = 0
        ·rw [if_pos c17] at H
         have c17b0 : (((rd_T54 l0 (rd l1 0)).f1) == 0) = true := beq_iff_eq.mpr c17
         have c17b1 : (((rd_T54 l0 (rd l1 0)).f1) != 0) = false := bne_eq_false_iff_eq.mpr c17
         clear c17
         (first | rw [c17b0] | (simp only [i64_w, i32_w]; rw [c17b0]) | skip)
         by_cases c18 : ((rd_T54 l0 (rd l1 0)).f3) = 0
         ·rw [if_pos c18] at H
          have c18b0 : (((rd_T54 l0 (rd l1 0)).f3) == 0) = true := beq_iff_eq.mpr c18
          have c18b1 : (((rd_T54 l0 (rd l1 0)).f3) != 0) = false := bne_eq_false_iff_eq.mpr c18
          clear c18
          have H' := Aside0.mk H
          clear H
          have hcz19_0 : wr.cell? ⟨gb164, 0, none⟩ = some (.string ((rd_T54 l0 (rd l1 0)).f0)) := (blk_cell BK164.out 0).trans rfl
          have hcz19_1 : wr.cell? ⟨gb164, 1, none⟩ = some (.int .i64 ((rd_T54 l0 (rd l1 0)).f1)) := (blk_cell BK164.out 1).trans rfl
          have hcz19_2 : wr.cell? ⟨gb164, 2, none⟩ = some (.int .i64 ((rd_T54 l0 (rd l1 0)).f2)) := (blk_cell BK164.out 2).trans rfl
          have hcz19_3 : wr.cell? ⟨gb164, 3, none⟩ = some (.int .i64 ((rd_T54 l0 (rd l1 0)).f3)) := (blk_cell BK164.out 3).trans rfl
          have hcz19_4 : wr.cell? ⟨gb164, 4, none⟩ = some (.int .i64 ((rd_T54 l0 (rd l1 0)).f4)) := (blk_cell BK164.out 4).trans rfl
          have hcz19_5 : wr.cell? ⟨gb164, 5, none⟩ = some (.int .i64 ((rd_T54 l0 (rd l1 0)).f5)) := (blk_cell BK164.out 5).trans rfl
          have hcz19_6 : wr.cell? ⟨gb164, 6, none⟩ = some (.int .i64 ((rd_T54 l0 (rd l1 0)).f6)) := (blk_cell BK164.out 6).trans rfl
          have hcz19_7 : wr.cell? ⟨gb164, 7, none⟩ = some (.int .i64 ((rd_T54 l0 (rd l1 0)).f7)) := (blk_cell BK164.out 7).trans rfl
          have hcz19_8 : wr.cell? ⟨gb164, 8, none⟩ = some (.int .i64 ((rd_T54 l0 (rd l1 0)).f8)) := (blk_cell BK164.out 8).trans rfl
          have hcz19_9 : wr.cell? ⟨gb164, 9, none⟩ = some (.int .i64 ((rd_T54 l0 (rd l1 0)).f9)) := (blk_cell BK164.out 9).trans rfl
          have hcz19_10 : wr.cell? ⟨gb164, 10, none⟩ = some (.int .i64 ((rd_T54 l0 (rd l1 0)).f10)) := (blk_cell BK164.out 10).trans rfl
          have hcz19_11 : wr.cell? ⟨gb164, 11, none⟩ = some (.int .i64 ((rd_T54 l0 (rd l1 0)).f11)) := (blk_cell BK164.out 11).trans rfl
          have hcz19_12 : wr.cell? ⟨gb164, 12, none⟩ = some (.int .i64 ((rd_T54 l0 (rd l1 0)).f12)) := (blk_cell BK164.out 12).trans rfl
          have hcz19_13 : wr.cell? ⟨gb164, 13, none⟩ = some (.bool ((rd_T54 l0 (rd l1 0)).f13)) := (blk_cell BK164.out 13).trans rfl
          have hfz19_0 := blk_frozen BK164.out 0
          have hfz19_1 := blk_frozen BK164.out 1
          have hfz19_2 := blk_frozen BK164.out 2
          have hfz19_3 := blk_frozen BK164.out 3
          have hfz19_4 := blk_frozen BK164.out 4
          have hfz19_5 := blk_frozen BK164.out 5
          have hfz19_6 := blk_frozen BK164.out 6
          have hfz19_7 := blk_frozen BK164.out 7
          have hfz19_8 := blk_frozen BK164.out 8
          have hfz19_9 := blk_frozen BK164.out 9
          have hfz19_10 := blk_frozen BK164.out 10
          have hfz19_11 := blk_frozen BK164.out 11
          have hfz19_12 := blk_frozen BK164.out 12
          have hfz19_13 := blk_frozen BK164.out 13
          go_wp2
          repeat (go_quiet (fail); try go_wp2)
          go_meet
          case rel => exact ⟨_, (true), (by first | rfl | (simp; done) | (simp [*]; done) | (refine congrArg (Value.int .i64) ?_; unfold wrap64; omega) | (simp only [shl_one_small _ (by assumption) (by omega)]; done) | (simp [*]; rw [shl_one_small _ (by assumption) (by omega)]; done)), H', ⟨by have := HK1.out; first | omega | exact Nat.le_refl _⟩, ⟨by (with_reducible repeat (first | refine blk_drewN ?_ _ | refine blk_drew ?_ | refine blk_alloc ?_ _)); exact BK164.out⟩, ⟨by repeat (first | (with_reducible first | exact HB.out | apply below_alloc | apply pw_below_drewN | apply below_drew1 | refine below_set ?_ GE164.out) | exact HB.out)⟩⟩
         ·rw [if_neg c18] at H
          have c18b0 : (((rd_T54 l0 (rd l1 0)).f3) == 0) = false := beq_eq_false_iff_ne.mpr c18
          have c18b1 : (((rd_T54 l0 (rd l1 0)).f3) != 0) = true := bne_iff_ne.mpr c18
          have H' := Aside0.mk H
          clear H
          have hcz20_0 : wr.cell? ⟨gb164, 0, none⟩ = some (.string ((rd_T54 l0 (rd l1 0)).f0)) := (blk_cell BK164.out 0).trans rfl
          have hcz20_1 : wr.cell? ⟨gb164, 1, none⟩ = some (.int .i64 ((rd_T54 l0 (rd l1 0)).f1)) := (blk_cell BK164.out 1).trans rfl
          have hcz20_2 : wr.cell? ⟨gb164, 2, none⟩ = some (.int .i64 ((rd_T54 l0 (rd l1 0)).f2)) := (blk_cell BK164.out 2).trans rfl
          have hcz20_3 : wr.cell? ⟨gb164, 3, none⟩ = some (.int .i64 ((rd_T54 l0 (rd l1 0)).f3)) := (blk_cell BK164.out 3).trans rfl
          have hcz20_4 : wr.cell? ⟨gb164, 4, none⟩ = some (.int .i64 ((rd_T54 l0 (rd l1 0)).f4)) := (blk_cell BK164.out 4).trans rfl
          have hcz20_5 : wr.cell? ⟨gb164, 5, none⟩ = some (.int .i64 ((rd_T54 l0 (rd l1 0)).f5)) := (blk_cell BK164.out 5).trans rfl
          have hcz20_6 : wr.cell? ⟨gb164, 6, none⟩ = some (.int .i64 ((rd_T54 l0 (rd l1 0)).f6)) := (blk_cell BK164.out 6).trans rfl
          have hcz20_7 : wr.cell? ⟨gb164, 7, none⟩ = some (.int .i64 ((rd_T54 l0 (rd l1 0)).f7)) := (blk_cell BK164.out 7).trans rfl
          have hcz20_8 : wr.cell? ⟨gb164, 8, none⟩ = some (.int .i64 ((rd_T54 l0 (rd l1 0)).f8)) := (blk_cell BK164.out 8).trans rfl
          have hcz20_9 : wr.cell? ⟨gb164, 9, none⟩ = some (.int .i64 ((rd_T54 l0 (rd l1 0)).f9)) := (blk_cell BK164.out 9).trans rfl
          have hcz20_10 : wr.cell? ⟨gb164, 10, none⟩ = some (.int .i64 ((rd_T54 l0 (rd l1 0)).f10)) := (blk_cell BK164.out 10).trans rfl
          have hcz20_11 : wr.cell? ⟨gb164, 11, none⟩ = some (.int .i64 ((rd_T54 l0 (rd l1 0)).f11)) := (blk_cell BK164.out 11).trans rfl
          have hcz20_12 : wr.cell? ⟨gb164, 12, none⟩ = some (.int .i64 ((rd_T54 l0 (rd l1 0)).f12)) := (blk_cell BK164.out 12).trans rfl
          have hcz20_13 : wr.cell? ⟨gb164, 13, none⟩ = some (.bool ((rd_T54 l0 (rd l1 0)).f13)) := (blk_cell BK164.out 13).trans rfl
          have hfz20_0 := blk_frozen BK164.out 0
          have hfz20_1 := blk_frozen BK164.out 1
          have hfz20_2 := blk_frozen BK164.out 2
          have hfz20_3 := blk_frozen BK164.out 3
          have hfz20_4 := blk_frozen BK164.out 4
          have hfz20_5 := blk_frozen BK164.out 5
          have hfz20_6 := blk_frozen BK164.out 6
          have hfz20_7 := blk_frozen BK164.out 7
          have hfz20_8 := blk_frozen BK164.out 8
          have hfz20_9 := blk_frozen BK164.out 9
          have hfz20_10 := blk_frozen BK164.out 10
          have hfz20_11 := blk_frozen BK164.out 11
          have hfz20_12 := blk_frozen BK164.out 12
          have hfz20_13 := blk_frozen BK164.out 13
          go_wp2
          repeat (go_quiet (fail); try go_wp2)
          go_meet
          case rel => exact ⟨_, (false), (by first | rfl | (simp; done) | (simp [*]; done) | (refine congrArg (Value.int .i64) ?_; unfold wrap64; omega) | (simp only [shl_one_small _ (by assumption) (by omega)]; done) | (simp [*]; rw [shl_one_small _ (by assumption) (by omega)]; done)), H', ⟨by have := HK1.out; first | omega | exact Nat.le_refl _⟩, ⟨by (with_reducible repeat (first | refine blk_drewN ?_ _ | refine blk_drew ?_ | refine blk_alloc ?_ _)); exact BK164.out⟩, ⟨by repeat (first | (with_reducible first | exact HB.out | apply below_alloc | apply pw_below_drewN | apply below_drew1 | refine below_set ?_ GE164.out) | exact HB.out)⟩⟩
        ·rw [if_neg c17] at H
         have c17b0 : (((rd_T54 l0 (rd l1 0)).f1) == 0) = false := beq_eq_false_iff_ne.mpr c17
         have c17b1 : (((rd_T54 l0 (rd l1 0)).f1) != 0) = true := bne_iff_ne.mpr c17
         (first | rw [c17b0] | (simp only [i64_w, i32_w]; rw [c17b0]) | skip)
         have H' := Aside0.mk H
         clear H
         have hcz21_0 : wr.cell? ⟨gb164, 0, none⟩ = some (.string ((rd_T54 l0 (rd l1 0)).f0)) := (blk_cell BK164.out 0).trans rfl
         have hcz21_1 : wr.cell? ⟨gb164, 1, none⟩ = some (.int .i64 ((rd_T54 l0 (rd l1 0)).f1)) := (blk_cell BK164.out 1).trans rfl
         have hcz21_2 : wr.cell? ⟨gb164, 2, none⟩ = some (.int .i64 ((rd_T54 l0 (rd l1 0)).f2)) := (blk_cell BK164.out 2).trans rfl
         have hcz21_3 : wr.cell? ⟨gb164, 3, none⟩ = some (.int .i64 ((rd_T54 l0 (rd l1 0)).f3)) := (blk_cell BK164.out 3).trans rfl
         have hcz21_4 : wr.cell? ⟨gb164, 4, none⟩ = some (.int .i64 ((rd_T54 l0 (rd l1 0)).f4)) := (blk_cell BK164.out 4).trans rfl
         have hcz21_5 : wr.cell? ⟨gb164, 5, none⟩ = some (.int .i64 ((rd_T54 l0 (rd l1 0)).f5)) := (blk_cell BK164.out 5).trans rfl
         have hcz21_6 : wr.cell? ⟨gb164, 6, none⟩ = some (.int .i64 ((rd_T54 l0 (rd l1 0)).f6)) := (blk_cell BK164.out 6).trans rfl
         have hcz21_7 : wr.cell? ⟨gb164, 7, none⟩ = some (.int .i64 ((rd_T54 l0 (rd l1 0)).f7)) := (blk_cell BK164.out 7).trans rfl
         have hcz21_8 : wr.cell? ⟨gb164, 8, none⟩ = some (.int .i64 ((rd_T54 l0 (rd l1 0)).f8)) := (blk_cell BK164.out 8).trans rfl
         have hcz21_9 : wr.cell? ⟨gb164, 9, none⟩ = some (.int .i64 ((rd_T54 l0 (rd l1 0)).f9)) := (blk_cell BK164.out 9).trans rfl
         have hcz21_10 : wr.cell? ⟨gb164, 10, none⟩ = some (.int .i64 ((rd_T54 l0 (rd l1 0)).f10)) := (blk_cell BK164.out 10).trans rfl
         have hcz21_11 : wr.cell? ⟨gb164, 11, none⟩ = some (.int .i64 ((rd_T54 l0 (rd l1 0)).f11)) := (blk_cell BK164.out 11).trans rfl
         have hcz21_12 : wr.cell? ⟨gb164, 12, none⟩ = some (.int .i64 ((rd_T54 l0 (rd l1 0)).f12)) := (blk_cell BK164.out 12).trans rfl
         have hcz21_13 : wr.cell? ⟨gb164, 13, none⟩ = some (.bool ((rd_T54 l0 (rd l1 0)).f13)) := (blk_cell BK164.out 13).trans rfl
         have hfz21_0 := blk_frozen BK164.out 0
         have hfz21_1 := blk_frozen BK164.out 1
         have hfz21_2 := blk_frozen BK164.out 2
         have hfz21_3 := blk_frozen BK164.out 3
         have hfz21_4 := blk_frozen BK164.out 4
         have hfz21_5 := blk_frozen BK164.out 5
         have hfz21_6 := blk_frozen BK164.out 6
         have hfz21_7 := blk_frozen BK164.out 7
         have hfz21_8 := blk_frozen BK164.out 8
         have hfz21_9 := blk_frozen BK164.out 9
         have hfz21_10 := blk_frozen BK164.out 10
         have hfz21_11 := blk_frozen BK164.out 11
         have hfz21_12 := blk_frozen BK164.out 12
         have hfz21_13 := blk_frozen BK164.out 13
         go_wp2
         repeat (go_quiet (fail); try go_wp2)
         go_meet
         case rel => exact ⟨_, (decide ((l1.length : Int) > 1)), (by first | rfl | (simp; done) | (simp [*]; done) | (refine congrArg (Value.int .i64) ?_; unfold wrap64; omega) | (simp only [shl_one_small _ (by assumption) (by omega)]; done) | (simp [*]; rw [shl_one_small _ (by assumption) (by omega)]; done)), H', ⟨by have := HK1.out; first | omega | exact Nat.le_refl _⟩, ⟨by (with_reducible repeat (first | refine blk_drewN ?_ _ | refine blk_drew ?_ | refine blk_alloc ?_ _)); exact BK164.out⟩, ⟨by repeat (first | (with_reducible first | exact HB.out | apply below_alloc | apply pw_below_drewN | apply below_drew1 | refine below_set ?_ GE164.out) | exact HB.out)⟩⟩
       case rest =>
        clear HC16
        try clear c1
        try clear c3
        try clear c3b0
        try clear c3b1
        try clear c4
        try clear c4b0
        try clear c5
        try clear c5b0
        try clear c8
        try clear c8b0
        try clear c9
        try clear c10
        try clear c11
        try clear c12
        try clear c13
        try clear c17
        try clear c18
        try clear hcz7_0
        try clear hcz7_1
        try clear hcz7_10
        try clear hcz7_11
        try clear hcz7_12
        try clear hcz7_13
        try clear hcz7_2
        try clear hcz7_3
        try clear hcz7_4
        try clear hcz7_5
        try clear hcz7_6
        try clear hcz7_7
        try clear hcz7_8
        try clear hcz7_9
        try clear hfz7_0
        try clear hfz7_1
        try clear hfz7_10
        try clear hfz7_11
        try clear hfz7_12
        try clear hfz7_13
        try clear hfz7_2
        try clear hfz7_3
        try clear hfz7_4
        try clear hfz7_5
        try clear hfz7_6
        try clear hfz7_7
        try clear hfz7_8
        try clear hfz7_9
        try clear hx162_0
        try clear hx163_0
        try clear hx163_1
        try clear hx163_10
        try clear hx163_11
        try clear hx163_12
        try clear hx163_13
        try clear hx163_2
        try clear hx163_3
        try clear hx163_4
        try clear hx163_5
        try clear hx163_6
        try clear hx163_7
        try clear hx163_8
        try clear hx163_9
        try clear p162
        try clear p163
        try clear q162
        try clear q163
        obtain ⟨kq, x46_15, rfl, HA, HJ15, BK164, HB⟩ := hcut
        cases kq with
        | zero => exact absurd HA.out (by simp [fleet_fits.j1])
        | succ kj15 =>
         have H := HA.out
         clear HA
         simp only [fleet_fits.j1] at H
         by_cases c22 : x46_15 = true
         ·subst c22
          have H1 : (some 8) = some r := by rw [if_pos rfl] at H; exact H
          clear H
          have H := H1
          clear H1
          obtain rfl := Option.some.inj H
          go_wp2
          repeat (go_quiet (fail); try go_wp2)
          go_ret
          exact ⟨by first | rfl | (simp [errW_none, errW_some] <;> rfl) | (simp [*, errW_none, errW_some] <;> rfl), by repeat (first | (with_reducible first | exact HB.out | apply below_alloc | apply pw_below_drewN | apply below_drew1 | refine below_set ?_ GE164.out) | exact HB.out)⟩
         ·replace c22 := Bool.eq_false_iff.mpr c22
          subst c22
          have H1 : (some 0) = some r := by rw [if_neg (show ¬ (false = true) by decide)] at H; exact H
          clear H
          have H := H1
          clear H1
          obtain rfl := Option.some.inj H
          go_wp2
          repeat (go_quiet (fail); try go_wp2)
          go_ret
          exact ⟨by first | rfl | (simp [errW_none, errW_some] <;> rfl) | (simp [*, errW_none, errW_some] <;> rfl), by repeat (first | (with_reducible first | exact HB.out | apply below_alloc | apply pw_below_drewN | apply below_drew1 | refine below_set ?_ GE164.out) | exact HB.out)⟩
   ·rw [if_neg c5] at H
    exact absurd H (by simp)
  ·rw [if_neg c4] at H
   exact absurd H (by simp)
 ·rw [if_neg c3] at H
  exact absurd H (by simp)

end Go.Proofs.Ytgnahbjpockdmaa.Q
