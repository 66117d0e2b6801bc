-- PRINTED by print.py (a twelfth state) out of the translation. Not trusted: Lean checks it.
import Derived.Test.YtchflcnegpnkkaaPrs
import Derived.Test.YtchflcnegpnkkaaQ0
import Derived.Test.YtchflcnegpnkkaaQ8
import Derived.Test.YtchflcnegpnkkaaQ9
namespace Go.Proofs.Ytchflcnegpnkkaa.Q
open Go.RowKit Go.Proofs.YtchflcnegpnkkaaPrs Go.Proofs.YtchflcnegpnkkaaOwn Go.Proofs.YtchflcnegpnkkaaW.PrintWords Go.Proofs.YtchflcnegpnkkaaW.PrintLast Go.Proofs.YtchflcnegpnkkaaW.PrintMore
attribute [local go_sem] max2_int min2_int max_two min_two max_three min_three max_four min_four   -- for this text's walks alone
set_option linter.unusedVariables false
set_option linter.unusedSimpArgs false

/-! ### hinterlandlaw02_known: function 16 -/
def hinterlandlaw02_known.j0 : Nat → Bool → Option (Bool)
  | 0, _ => none
  | k + 1, x0 => some x0
def hinterlandlaw02_known.f (k : Nat)  : Option (Bool) := (hinterlandlaw02_flat.f k 4 4 3).bind fun bt149 => ((land_Shift.f k bt149.1 bt149.2.1 bt149.2.2 2 2 true ([] : List Int)).bind fun bt154 => ((land_Shift.f k bt154.1 bt154.2.1 bt154.2.2.1 2 2 true ([] : List Int)).bind fun bt165 => (if bt154.2.2.2.2.2 = 0 then (if bt165.2.2.2.2.2 = 0 then (if (bt154.2.2.2.1.length : Int) = 1 then (if bt154.2.2.2.2.1 = 250 then (if (bt165.2.2.2.1.length : Int) = 5 then (if bt165.2.2.2.2.1 = 1250 then (if (bt165.2.2.1.length : Int) = 25 then (if 12 < (bt165.2.2.1.length : Int) then (hinterlandlaw02_known.j0 k ((rd bt165.2.2.1 12) == 5)) else (none)) else (hinterlandlaw02_known.j0 k false)) else (hinterlandlaw02_known.j0 k false)) else (hinterlandlaw02_known.j0 k false)) else (hinterlandlaw02_known.j0 k false)) else (hinterlandlaw02_known.j0 k false)) else (hinterlandlaw02_known.j0 k false)) else (hinterlandlaw02_known.j0 k false))))
theorem hinterlandlaw02_known.mono_l : ∀ k, (∀ y0, LeO (hinterlandlaw02_known.j0 k y0) (hinterlandlaw02_known.j0 (k + 1) y0))
  | 0 => fun _ r h => by simp [hinterlandlaw02_known.j0] at h
  | k + 1 => by
    have ih0 := hinterlandlaw02_known.mono_l k
    · intro y0
      unfold hinterlandlaw02_known.j0
      repeat' first
      | (with_reducible first | exact ih0 _ | exact hinterlandlaw02_flat.mono _ _ _ _ | exact land_Shift.mono _ _ _ _ _ _ _ _ | exact LeO.refl _ | exact LeO.none _ | refine LeO.ite ?_ ?_ | refine LeO.bind ?_ (fun _ => ?_))
      | exact ih0 _
      | exact hinterlandlaw02_flat.mono _ _ _ _
      | exact land_Shift.mono _ _ _ _ _ _ _ _
      | exact LeO.none _
      | refine LeO.ite ?_ ?_
      | refine LeO.bind ?_ (fun _ => ?_)
theorem hinterlandlaw02_known.mono : ∀ k, LeO (hinterlandlaw02_known.f k ) (hinterlandlaw02_known.f (k + 1) ) := by
  intro  k
  have ih0 := hinterlandlaw02_known.mono_l k
  unfold hinterlandlaw02_known.f
  repeat' first
      | (with_reducible first | exact ih0 _ | exact hinterlandlaw02_flat.mono _ _ _ _ | exact land_Shift.mono _ _ _ _ _ _ _ _ | exact LeO.refl _ | exact LeO.none _ | refine LeO.ite ?_ ?_ | refine LeO.bind ?_ (fun _ => ?_))
      | exact ih0 _
      | exact hinterlandlaw02_flat.mono _ _ _ _
      | exact land_Shift.mono _ _ _ _ _ _ _ _
      | exact LeO.none _
      | refine LeO.ite ?_ ?_
      | refine LeO.bind ?_ (fun _ => ?_)
set_option maxHeartbeats 8000000 in
set_option maxRecDepth 100000 in
theorem hinterlandlaw02_known.calls (k : Nat)  (r : Bool) (w : World) (h : hinterlandlaw02_known.f k  = some r) :
    Calls Try.prog 16 #[] w fun e w' => e = .returned (.bool r) ∧ Below w.heap.size w w' := by
 have hu24 := Try.underlying24
 have HB := Aside0.mk (Below.refl w.heap.size w)
 have H : ((hinterlandlaw02_flat.f k 4 4 3).bind fun bt149 => ((land_Shift.f k bt149.1 bt149.2.1 bt149.2.2 2 2 true ([] : List Int)).bind fun bt154 => ((land_Shift.f k bt154.1 bt154.2.1 bt154.2.2.1 2 2 true ([] : List Int)).bind fun bt165 => (if bt154.2.2.2.2.2 = 0 then (if bt165.2.2.2.2.2 = 0 then (if (bt154.2.2.2.1.length : Int) = 1 then (if bt154.2.2.2.2.1 = 250 then (if (bt165.2.2.2.1.length : Int) = 5 then (if bt165.2.2.2.2.1 = 1250 then (if (bt165.2.2.1.length : Int) = 25 then (if 12 < (bt165.2.2.1.length : Int) then (hinterlandlaw02_known.j0 k ((rd bt165.2.2.1 12) == 5)) else (none)) else (hinterlandlaw02_known.j0 k false)) else (hinterlandlaw02_known.j0 k false)) else (hinterlandlaw02_known.j0 k false)) else (hinterlandlaw02_known.j0 k false)) else (hinterlandlaw02_known.j0 k false)) else (hinterlandlaw02_known.j0 k false)) else (hinterlandlaw02_known.j0 k false))))) = some r := h
 clear h
 replace H := Option.bind_eq_some_iff.mp H
 obtain ⟨⟨t149, t150, t151⟩, A10, H⟩ := H
 replace H : ((land_Shift.f k t149 t150 t151 2 2 true ([] : List Int)).bind fun bt154 => ((land_Shift.f k bt154.1 bt154.2.1 bt154.2.2.1 2 2 true ([] : List Int)).bind fun bt165 => (if bt154.2.2.2.2.2 = 0 then (if bt165.2.2.2.2.2 = 0 then (if (bt154.2.2.2.1.length : Int) = 1 then (if bt154.2.2.2.2.1 = 250 then (if (bt165.2.2.2.1.length : Int) = 5 then (if bt165.2.2.2.2.1 = 1250 then (if (bt165.2.2.1.length : Int) = 25 then (if 12 < (bt165.2.2.1.length : Int) then (hinterlandlaw02_known.j0 k ((rd bt165.2.2.1 12) == 5)) else (none)) else (hinterlandlaw02_known.j0 k false)) else (hinterlandlaw02_known.j0 k false)) else (hinterlandlaw02_known.j0 k false)) else (hinterlandlaw02_known.j0 k false)) else (hinterlandlaw02_known.j0 k false)) else (hinterlandlaw02_known.j0 k false)) else (hinterlandlaw02_known.j0 k false)))) = some r := H
 have A1 := Aside0.mk A10
 clear A10
 replace H := Option.bind_eq_some_iff.mp H
 obtain ⟨⟨t154, t155, t156, t159, t162, t163⟩, A20, H⟩ := H
 replace H : ((land_Shift.f k t154 t155 t156 2 2 true ([] : List Int)).bind fun bt165 => (if t163 = 0 then (if bt165.2.2.2.2.2 = 0 then (if (t159.length : Int) = 1 then (if t162 = 250 then (if (bt165.2.2.2.1.length : Int) = 5 then (if bt165.2.2.2.2.1 = 1250 then (if (bt165.2.2.1.length : Int) = 25 then (if 12 < (bt165.2.2.1.length : Int) then (hinterlandlaw02_known.j0 k ((rd bt165.2.2.1 12) == 5)) else (none)) else (hinterlandlaw02_known.j0 k false)) else (hinterlandlaw02_known.j0 k false)) else (hinterlandlaw02_known.j0 k false)) else (hinterlandlaw02_known.j0 k false)) else (hinterlandlaw02_known.j0 k false)) else (hinterlandlaw02_known.j0 k false)) else (hinterlandlaw02_known.j0 k false))) = some r := H
 have A2 := Aside0.mk A20
 clear A20
 replace H := Option.bind_eq_some_iff.mp H
 obtain ⟨⟨t165, t166, t167, t170, t173, t174⟩, A30, H⟩ := H
 replace H : (if t163 = 0 then (if t174 = 0 then (if (t159.length : Int) = 1 then (if t162 = 250 then (if (t170.length : Int) = 5 then (if t173 = 1250 then (if (t167.length : Int) = 25 then (if 12 < (t167.length : Int) then (hinterlandlaw02_known.j0 k ((rd t167 12) == 5)) else (none)) else (hinterlandlaw02_known.j0 k false)) else (hinterlandlaw02_known.j0 k false)) else (hinterlandlaw02_known.j0 k false)) else (hinterlandlaw02_known.j0 k false)) else (hinterlandlaw02_known.j0 k false)) else (hinterlandlaw02_known.j0 k false)) else (hinterlandlaw02_known.j0 k false)) = some r := H
 have A3 := Aside0.mk A30
 clear A30
 have HC4 := Aside0.mk H
 clear H
 go_enter Try.func16, Try.ntmps16
 go_upto_region 3 with (first | ((with_reducible refine gate_callee (f := 41) rfl ?_); refine goesL_ (some 10) rfl rfl Try.func41 (by kernel_rfl) rfl #[.int .i64 4, .int .i64 4, .int .i64 3] rfl tA_ ?_; (with_reducible refine (hinterlandlaw02_flat.calls k 4 4 3 t149 t150 t151 _ A1.out).mono ?_); rintro e w5 ⟨v152, rfl, ho0, hb⟩; refine ⟨_, rfl, ?_⟩; have HO153 := Aside0.mk (Kd.R_lower ho0 (below_size (dL_ HB))); replace HB := Aside0.mk (below_step (dL_ HB) hb); obtain ⟨Ao6, co6, eo6⟩ := Kd.R_slice HO153.out; subst eo6) | ((with_reducible refine gate_callee (f := 19) rfl ?_); refine goesL_ (some 11) rfl rfl Try.func19 (by kernel_rfl) rfl #[.agg #[.int .i64 t149, .int .i64 t150, .slice Ao6 t151.length co6], .int .i64 2, .int .i64 2, .bool true, .slice none 0 0] rfl tA_ ?_; (refine (land_Shift.calls k t149 t150 _ _ t151 2 2 true _ _ ([] : List Int) t154 t155 t156 t159 t162 t163 _ ?side1 ?side2 ?side3 ?side4 A2.out).mono ?_); (case side1 => repeat (first | exact (Kd.R_reads' HO153.out).2.2 | (with_reducible refine Kd.C_alloc ?_ _) | (with_reducible refine Kd.C_drewN ?_ _) | (with_reducible refine Kd.C_drew ?_))); (case side2 => exact (Kd.R_reads' HO153.out).2.1); (case side3 => exact Kd.C_nil _ _); (case side4 => exact Nat.le_refl _); rintro e w7 ⟨v157, v160, rfl, ho0, ho1, hb⟩; refine ⟨_, rfl, ?_⟩; have HO158 := Aside0.mk (Kd.R_lower (Kd.R_new' ho0 (Kd.R_lt (dR_ HO153))) (below_size (dL_ HB))); replace HO153 := Aside0.mk (Kd.R_elder' (dR_ HO153) (Kd.R_base ho0) hb); have HO161 := Aside0.mk (Kd.R_lower ho1 (below_size (dL_ HB))); replace HB := Aside0.mk (below_step (dL_ HB) hb)) | ((with_reducible refine gate_dst (N := 1) rfl ?_); (try (refine gate_guard (by rfl) ?_; dsimp only)); refine box_event ?hg (N := 1) ?hd (cs := #[.int .i64 0, .int .i64 0, .slice none 0 0]) (t := 24) ?hr ?_; (case hd => rfl); (case hg => rfl); (case hr => first | (go_simp; done) | (go_simp; rfl)); intro gb164 hg w8 hbox hb; replace HO153 := Aside0.mk (Kd.R_below (dR_ HO153) hb); replace HO158 := Aside0.mk (Kd.R_below (dR_ HO158) hb); replace HO161 := Aside0.mk (Kd.R_below (dR_ HO161) hb); have BK164 := Aside0.mk (hbox); have GW164 := Aside0.mk ((dS_ hg (dL_ HB) : w.heap.size ≤ gb164)); have GE164 := Aside0.mk ((dS_ hg (dL_ HB) : w.heap.size ≤ gb164)); replace HB := Aside0.mk (below_step (dL_ HB) hb); clear hb hbox hg; obtain ⟨hcz9_0, hcz9_1, hcz9_2, hfz9_0, hfz9_1, hfz9_2⟩ := cs3_ BK164.out; obtain ⟨Ao10, co10, eo10⟩ := Kd.R_slice HO158.out; subst eo10) | ((with_reducible refine gate_callee (f := 19) rfl ?_); refine goesL_ (some 18) rfl rfl Try.func19 (by kernel_rfl) rfl #[.agg #[.int .i64 t154, .int .i64 t155, .slice Ao10 t156.length co10], .int .i64 2, .int .i64 2, .bool true, .slice none 0 0] rfl tA_ ?_; (refine (land_Shift.calls k t154 t155 _ _ t156 2 2 true _ _ ([] : List Int) t165 t166 t167 t170 t173 t174 _ ?side1 ?side2 ?side3 ?side4 A3.out).mono ?_); (case side1 => refine (Kd.R_reads' (e := 3) (base := w.heap.size) (ok := fun k_ => (True ∧ some k_ ≠ (.slice Ao6 t151.length co6 : Value).ownBlock)) (n := t156.length) (c := co10) ?_).2.2; exact (by (with_reducible repeat (first | apply Kd.R_alloc | apply Kd.R_drewN | apply Kd.R_drew)); exact (Kd.R_mono (Kd.R_far (p := ⟨gb164, 2, none⟩) (Kd.R_far (p := ⟨gb164, 1, none⟩) (Kd.R_far (p := ⟨gb164, 0, none⟩) (Kd.R_types HO158.out BK164.out (by decide)) (fun _ hk => hk.2) (.int .i64 t154)) (fun _ hk => hk.2) (.int .i64 t155)) (fun _ hk => hk.2) (.slice Ao10 t156.length co10)) (fun _ h_ => h_.1)))); (case side2 => exact (Kd.R_reads' HO158.out).2.1); (case side3 => exact Kd.C_nil _ _); (case side4 => exact Nat.le_refl _); rintro e w11 ⟨v168, v171, rfl, ho0, ho1, hb⟩; refine ⟨_, rfl, ?_⟩; have HO169 := Aside0.mk (Kd.R_lower (Kd.R_new' (Kd.R_new' ho0 (Kd.R_lt (by (with_reducible repeat (first | apply Kd.R_alloc | apply Kd.R_drewN | apply Kd.R_drew)); exact (Kd.R_mono (Kd.R_far (p := ⟨gb164, 2, none⟩) (Kd.R_far (p := ⟨gb164, 1, none⟩) (Kd.R_far (p := ⟨gb164, 0, none⟩) (Kd.R_types HO153.out BK164.out (by decide)) (fun _ hk => hk.2) (.int .i64 t154)) (fun _ hk => hk.2) (.int .i64 t155)) (fun _ hk => hk.2) (.slice Ao10 t156.length co10)) (fun _ h_ => h_.1))))) (Kd.R_lt (by (with_reducible repeat (first | apply Kd.R_alloc | apply Kd.R_drewN | apply Kd.R_drew)); exact (Kd.R_mono (Kd.R_far (p := ⟨gb164, 2, none⟩) (Kd.R_far (p := ⟨gb164, 1, none⟩) (Kd.R_far (p := ⟨gb164, 0, none⟩) (Kd.R_types HO158.out BK164.out (by decide)) (fun _ hk => hk.2) (.int .i64 t154)) (fun _ hk => hk.2) (.int .i64 t155)) (fun _ hk => hk.2) (.slice Ao10 t156.length co10)) (fun _ h_ => h_.1))))) (below_size (dL1_ HB GE164))); replace HO153 := Aside0.mk (Kd.R_elder' (by (with_reducible repeat (first | apply Kd.R_alloc | apply Kd.R_drewN | apply Kd.R_drew)); exact (Kd.R_mono (Kd.R_far (p := ⟨gb164, 2, none⟩) (Kd.R_far (p := ⟨gb164, 1, none⟩) (Kd.R_far (p := ⟨gb164, 0, none⟩) (Kd.R_types HO153.out BK164.out (by decide)) (fun _ hk => hk.2) (.int .i64 t154)) (fun _ hk => hk.2) (.int .i64 t155)) (fun _ hk => hk.2) (.slice Ao10 t156.length co10)) (fun _ h_ => h_.1))) (Kd.R_base ho0) hb); replace HO158 := Aside0.mk (Kd.R_elder' (by (with_reducible repeat (first | apply Kd.R_alloc | apply Kd.R_drewN | apply Kd.R_drew)); exact (Kd.R_mono (Kd.R_far (p := ⟨gb164, 2, none⟩) (Kd.R_far (p := ⟨gb164, 1, none⟩) (Kd.R_far (p := ⟨gb164, 0, none⟩) (Kd.R_types HO158.out BK164.out (by decide)) (fun _ hk => hk.2) (.int .i64 t154)) (fun _ hk => hk.2) (.int .i64 t155)) (fun _ hk => hk.2) (.slice Ao10 t156.length co10)) (fun _ h_ => h_.1))) (Kd.R_base ho0) hb); have HO172 := Aside0.mk (Kd.R_lower (Kd.R_new' ho1 (Kd.R_lt (by (with_reducible repeat (first | apply Kd.R_alloc | apply Kd.R_drewN | apply Kd.R_drew)); exact (Kd.R_mono (Kd.R_far (p := ⟨gb164, 2, none⟩) (Kd.R_far (p := ⟨gb164, 1, none⟩) (Kd.R_far (p := ⟨gb164, 0, none⟩) (Kd.R_types HO161.out BK164.out (by decide)) (fun _ hk => hk.2) (.int .i64 t154)) (fun _ hk => hk.2) (.int .i64 t155)) (fun _ hk => hk.2) (.slice Ao10 t156.length co10)) (fun _ h_ => h_.1))))) (below_size (dL1_ HB GE164))); replace HO161 := Aside0.mk (Kd.R_elder' (by (with_reducible repeat (first | apply Kd.R_alloc | apply Kd.R_drewN | apply Kd.R_drew)); exact (Kd.R_mono (Kd.R_far (p := ⟨gb164, 2, none⟩) (Kd.R_far (p := ⟨gb164, 1, none⟩) (Kd.R_far (p := ⟨gb164, 0, none⟩) (Kd.R_types HO161.out BK164.out (by decide)) (fun _ hk => hk.2) (.int .i64 t154)) (fun _ hk => hk.2) (.int .i64 t155)) (fun _ hk => hk.2) (.slice Ao10 t156.length co10)) (fun _ h_ => h_.1))) (Kd.R_base ho1) hb); replace BK164 := Aside0.mk (blk_below (g := gb164) (o := .cells #[.int .i64 t154, .int .i64 t155, .slice Ao10 t156.length co10] 24 (0, 0)) (by (with_reducible repeat (first | refine blk_drewN ?_ _ | refine blk_drew ?_ | refine blk_alloc ?_ _)); refine blk_put (cs := #[.int .i64 t154, .int .i64 t155, .slice none 0 0]) ?_ 2 _ rfl; (with_reducible repeat (first | refine blk_drewN ?_ _ | refine blk_drew ?_ | refine blk_alloc ?_ _)); refine blk_put (cs := #[.int .i64 t154, .int .i64 0, .slice none 0 0]) ?_ 1 _ rfl; (with_reducible repeat (first | refine blk_drewN ?_ _ | refine blk_drew ?_ | refine blk_alloc ?_ _)); refine blk_put (cs := #[.int .i64 0, .int .i64 0, .slice none 0 0]) ?_ 0 _ rfl; (with_reducible repeat (first | refine blk_drewN ?_ _ | refine blk_drew ?_ | refine blk_alloc ?_ _)); exact BK164.out) hb); replace HB := Aside0.mk (below_step (dL1_ HB GE164) hb)) | ((with_reducible refine gate_dst (N := 5) rfl ?_); (try (refine gate_guard (by rfl) ?_; dsimp only)); refine box_event ?hg (N := 5) ?hd (cs := #[.int .i64 0, .int .i64 0, .slice none 0 0]) (t := 24) ?hr ?_; (case hd => rfl); (case hg => rfl); (case hr => first | (go_simp; done) | (go_simp; rfl)); intro gb175 hg w12 hbox hb; replace HO153 := Aside0.mk (Kd.R_below (dR_ HO153) hb); replace HO158 := Aside0.mk (Kd.R_below (dR_ HO158) hb); replace HO161 := Aside0.mk (Kd.R_below (dR_ HO161) hb); replace HO169 := Aside0.mk (Kd.R_below (dR_ HO169) hb); replace HO172 := Aside0.mk (Kd.R_below (dR_ HO172) hb); have BK175 := Aside0.mk (hbox); have GW175 := Aside0.mk ((dS_ hg (dL1_ HB GE164) : w.heap.size ≤ gb175)); have GE175 := Aside0.mk ((dS_ hg (dL1_ HB GE164) : w.heap.size ≤ gb175)); replace HB := Aside0.mk (below_step (dL1_ HB GE164) hb); have NB164_175 := Aside0.mk ((by rw [hg]; exact Nat.ne_of_lt (blk_lt (dB_ BK164)) : gb164 ≠ gb175)); have NB175_164 := Aside0.mk ((by rw [hg]; exact Nat.ne_of_gt (blk_lt (dB_ BK164)) : gb175 ≠ gb164)); replace BK164 := Aside0.mk (blk_below (g := gb164) (o := .cells #[.int .i64 t154, .int .i64 t155, .slice Ao10 t156.length co10] 24 (0, 0)) (dB_ BK164) hb); clear hb hbox hg; have hnb13 := NB175_164.out; have hnc13 := NB164_175.out; obtain ⟨hcz14_0, hcz14_1, hcz14_2, hfz14_0, hfz14_1, hfz14_2⟩ := cs3_ BK175.out; obtain ⟨Ao15, co15, eo15⟩ := Kd.R_slice HO169.out; subst eo15))
 (try simp only [Act.put, List.setIfInBounds_toArray, List.set_cons_zero, List.set_cons_succ])
 go_cut [0] (fun v0 wc => ∃ (kq : Nat) (x0_3 : Bool), v0 = .bool x0_3 ∧ Aside0 (hinterlandlaw02_known.j0 kq x0_3 = some r) ∧ Aside0 (kq ≤ k) ∧ Aside0 (Kd.R (Kd.int .i64) 3 wc w.heap.size (fun k_ => some k_ ≠ ((.slice Ao15 t167.length co15) : Value).ownBlock) (.slice Ao10 t156.length co10) t156) ∧ Aside0 (Kd.R (Kd.int .i64) 3 wc w.heap.size (fun k_ => some k_ ≠ ((.slice Ao10 t156.length co10) : Value).ownBlock) (.slice Ao15 t167.length co15) t167) ∧ Aside0 (wc.heap[gb164]? = some (.cells #[.int .i64 t154, .int .i64 t155, (.slice Ao10 t156.length co10)] 24 (0, 0))) ∧ Aside0 (wc.heap[gb175]? = some (.cells #[.int .i64 t165, .int .i64 t166, (.slice Ao15 t167.length co15)] 24 (0, 0))) ∧ Aside0 (Below w.heap.size w wc))
 case first =>
  have H := HC4.out
  clear HC4
  by_cases c16 : t163 = 0
  ·rw [if_pos c16] at H
   have c16b0 : (t163 == 0) = true := beq_iff_eq.mpr c16
   have c16b1 : (t163 != 0) = false := bne_eq_false_iff_eq.mpr c16
   clear c16
   (first | rw [c16b0] | (simp only [i64_w, i32_w]; rw [c16b0]) | skip)
   by_cases c17 : t174 = 0
   ·rw [if_pos c17] at H
    have c17b0 : (t174 == 0) = true := beq_iff_eq.mpr c17
    have c17b1 : (t174 != 0) = false := bne_eq_false_iff_eq.mpr c17
    clear c17
    by_cases c18 : (t159.length : Int) = 1
    ·rw [if_pos c18] at H
     have c18b0 : ((t159.length : Int) == 1) = true := beq_iff_eq.mpr c18
     have c18b1 : ((t159.length : Int) != 1) = false := bne_eq_false_iff_eq.mpr c18
     clear c18
     by_cases c19 : t162 = 250
     ·rw [if_pos c19] at H
      have c19b0 : (t162 == 250) = true := beq_iff_eq.mpr c19
      have c19b1 : (t162 != 250) = false := bne_eq_false_iff_eq.mpr c19
      clear c19
      by_cases c20 : (t170.length : Int) = 5
      ·rw [if_pos c20] at H
       have c20b0 : ((t170.length : Int) == 5) = true := beq_iff_eq.mpr c20
       have c20b1 : ((t170.length : Int) != 5) = false := bne_eq_false_iff_eq.mpr c20
       clear c20
       by_cases c21 : t173 = 1250
       ·rw [if_pos c21] at H
        have c21b0 : (t173 == 1250) = true := beq_iff_eq.mpr c21
        have c21b1 : (t173 != 1250) = false := bne_eq_false_iff_eq.mpr c21
        clear c21
        by_cases c22 : (t167.length : Int) = 25
        ·rw [if_pos c22] at H
         have c22b0 : ((t167.length : Int) == 25) = true := beq_iff_eq.mpr c22
         have c22b1 : ((t167.length : Int) != 25) = false := bne_eq_false_iff_eq.mpr c22
         clear c22
         by_cases c23 : 12 < (t167.length : Int)
         ·rw [if_pos c23] at H
          have c23b0 : decide (12 < (t167.length : Int)) = true := decide_eq_true c23
          have c23b1 : decide (12 < t167.length) = true := decide_eq_true (by omega)
          clear c23
          have H' := Aside0.mk H
          clear H
          obtain ⟨Ao24, co24, eo24⟩ := Kd.R_slice HO161.out
          subst eo24
          obtain ⟨Ao25, co25, eo25⟩ := Kd.R_slice HO172.out
          subst eo25
          have hnb26 := NB175_164.out
          have hnc26 := NB164_175.out
          obtain ⟨hcz27_0, hcz27_1, hcz27_2, hfz27_0, hfz27_1, hfz27_2⟩ := cs3_ BK175.out
          have p176 : 0 ≤ (12 : Int) := (by omega)
          have q176 : 12 < (t167.length : Int) := of_decide_eq_true tW_
          obtain ⟨ad176, e176, hx176_0⟩ := Kd.at_int (Kd.R_reads' HO169.out).2.2 12 p176 q176
          cases e176
          (try simp only [show (12 : Int).toNat = 12 from rfl, Nat.reduceMul, Nat.reduceEqDiff, Go.Addr.add, ↓reduceIte] at hx176_0)
          have qi176 : (12 < t167.length) = True := eq_true (by omega)
          (try rw [show ((12 : Int)).toNat = 12 from rfl] at hx176_0)
          have hn176_0 : ad176.block ≠ gb175 := Kd.own_blk (Kd.R_ne HO169.out BK175.out (by decide))
          have hn176_1 : ad176.block ≠ gb175 := Kd.own_blk (Kd.R_ne HO169.out BK175.out (by decide))
          have hn176_2 : ad176.block ≠ gb175 := Kd.own_blk (Kd.R_ne HO169.out BK175.out (by decide))
          replace hx176_0 := (cell_far (p := ⟨gb175, 0, none⟩) (aB_ hn176_0) (.int .i64 t165)).trans hx176_0
          replace hx176_0 := (cell_far (p := ⟨gb175, 1, none⟩) (aB_ hn176_1) (.int .i64 t166)).trans hx176_0
          replace hx176_0 := (cell_far (p := ⟨gb175, 2, none⟩) (aB_ hn176_2) (.slice (some ad176) t167.length co15)).trans hx176_0
          clear hn176_0
          clear hn176_1
          clear hn176_2
          replace p176 := eq_true p176
          replace q176 := eq_true q176
          go_wp2
          go_meet
          case rel => exact ⟨_, (((rd t167 12) == 5)), tS_, H', ⟨by first | omega | exact Nat.le_refl _⟩, ⟨by (with_reducible repeat (first | apply Kd.R_alloc | apply Kd.R_drewN | apply Kd.R_drew)); exact Kd.R_mono (Kd.R_far (p := ⟨gb175, 2, none⟩) (Kd.R_far (p := ⟨gb175, 1, none⟩) (Kd.R_far (p := ⟨gb175, 0, none⟩) (Kd.R_types HO158.out BK175.out (by decide)) (fun _ hk => hk.2) (.int .i64 t165)) (fun _ hk => hk.2) (.int .i64 t166)) (fun _ hk => hk.2) (.slice (some ad176) t167.length co15)) (fun _ hk => hk.1.2)⟩, ⟨by (with_reducible repeat (first | apply Kd.R_alloc | apply Kd.R_drewN | apply Kd.R_drew)); exact Kd.R_mono (Kd.R_far (p := ⟨gb175, 2, none⟩) (Kd.R_far (p := ⟨gb175, 1, none⟩) (Kd.R_far (p := ⟨gb175, 0, none⟩) (Kd.R_types HO169.out BK175.out (by decide)) (fun _ hk => hk.2) (.int .i64 t165)) (fun _ hk => hk.2) (.int .i64 t166)) (fun _ hk => hk.2) (.slice (some ad176) t167.length co15)) (fun _ hk => hk.1.2)⟩, ⟨by (with_reducible repeat (first | refine blk_drewN ?_ _ | refine blk_drew ?_ | refine blk_alloc ?_ _)); refine blk_far ?_ NB164_175.out _; (with_reducible repeat (first | refine blk_drewN ?_ _ | refine blk_drew ?_ | refine blk_alloc ?_ _)); refine blk_far ?_ NB164_175.out _; (with_reducible repeat (first | refine blk_drewN ?_ _ | refine blk_drew ?_ | refine blk_alloc ?_ _)); refine blk_far ?_ NB164_175.out _; (with_reducible repeat (first | refine blk_drewN ?_ _ | refine blk_drew ?_ | refine blk_alloc ?_ _)); exact BK164.out⟩, ⟨by (with_reducible repeat (first | refine blk_drewN ?_ _ | refine blk_drew ?_ | refine blk_alloc ?_ _)); refine blk_put (cs := #[.int .i64 t165, .int .i64 t166, .slice none 0 0]) ?_ 2 _ rfl; (with_reducible repeat (first | refine blk_drewN ?_ _ | refine blk_drew ?_ | refine blk_alloc ?_ _)); refine blk_put (cs := #[.int .i64 t165, .int .i64 0, .slice none 0 0]) ?_ 1 _ rfl; (with_reducible repeat (first | refine blk_drewN ?_ _ | refine blk_drew ?_ | refine blk_alloc ?_ _)); refine blk_put (cs := #[.int .i64 0, .int .i64 0, .slice none 0 0]) ?_ 0 _ rfl; (with_reducible repeat (first | refine blk_drewN ?_ _ | refine blk_drew ?_ | refine blk_alloc ?_ _)); exact BK175.out⟩, ⟨dL2_ HB GE164 GE175⟩⟩
         ·rw [if_neg c23] at H
          exact absurd H (by simp)
        ·rw [if_neg c22] at H
         have c22b0 : ((t167.length : Int) == 25) = false := beq_eq_false_iff_ne.mpr c22
         have c22b1 : ((t167.length : Int) != 25) = true := bne_iff_ne.mpr c22
         have H' := Aside0.mk H
         clear H
         obtain ⟨Ao28, co28, eo28⟩ := Kd.R_slice HO161.out
         subst eo28
         obtain ⟨Ao29, co29, eo29⟩ := Kd.R_slice HO172.out
         subst eo29
         have hnb30 := NB175_164.out
         have hnc30 := NB164_175.out
         obtain ⟨hcz31_0, hcz31_1, hcz31_2, hfz31_0, hfz31_1, hfz31_2⟩ := cs3_ BK175.out
         go_wp2
         go_meet
         case rel => exact ⟨_, (false), tS_, H', ⟨by first | omega | exact Nat.le_refl _⟩, ⟨by (with_reducible repeat (first | apply Kd.R_alloc | apply Kd.R_drewN | apply Kd.R_drew)); exact Kd.R_mono (Kd.R_far (p := ⟨gb175, 2, none⟩) (Kd.R_far (p := ⟨gb175, 1, none⟩) (Kd.R_far (p := ⟨gb175, 0, none⟩) (Kd.R_types HO158.out BK175.out (by decide)) (fun _ hk => hk.2) (.int .i64 t165)) (fun _ hk => hk.2) (.int .i64 t166)) (fun _ hk => hk.2) (.slice Ao15 t167.length co15)) (fun _ hk => hk.1.2)⟩, ⟨by (with_reducible repeat (first | apply Kd.R_alloc | apply Kd.R_drewN | apply Kd.R_drew)); exact Kd.R_mono (Kd.R_far (p := ⟨gb175, 2, none⟩) (Kd.R_far (p := ⟨gb175, 1, none⟩) (Kd.R_far (p := ⟨gb175, 0, none⟩) (Kd.R_types HO169.out BK175.out (by decide)) (fun _ hk => hk.2) (.int .i64 t165)) (fun _ hk => hk.2) (.int .i64 t166)) (fun _ hk => hk.2) (.slice Ao15 t167.length co15)) (fun _ hk => hk.1.2)⟩, ⟨by (with_reducible repeat (first | refine blk_drewN ?_ _ | refine blk_drew ?_ | refine blk_alloc ?_ _)); refine blk_far ?_ NB164_175.out _; (with_reducible repeat (first | refine blk_drewN ?_ _ | refine blk_drew ?_ | refine blk_alloc ?_ _)); refine blk_far ?_ NB164_175.out _; (with_reducible repeat (first | refine blk_drewN ?_ _ | refine blk_drew ?_ | refine blk_alloc ?_ _)); refine blk_far ?_ NB164_175.out _; (with_reducible repeat (first | refine blk_drewN ?_ _ | refine blk_drew ?_ | refine blk_alloc ?_ _)); exact BK164.out⟩, ⟨by (with_reducible repeat (first | refine blk_drewN ?_ _ | refine blk_drew ?_ | refine blk_alloc ?_ _)); refine blk_put (cs := #[.int .i64 t165, .int .i64 t166, .slice none 0 0]) ?_ 2 _ rfl; (with_reducible repeat (first | refine blk_drewN ?_ _ | refine blk_drew ?_ | refine blk_alloc ?_ _)); refine blk_put (cs := #[.int .i64 t165, .int .i64 0, .slice none 0 0]) ?_ 1 _ rfl; (with_reducible repeat (first | refine blk_drewN ?_ _ | refine blk_drew ?_ | refine blk_alloc ?_ _)); refine blk_put (cs := #[.int .i64 0, .int .i64 0, .slice none 0 0]) ?_ 0 _ rfl; (with_reducible repeat (first | refine blk_drewN ?_ _ | refine blk_drew ?_ | refine blk_alloc ?_ _)); exact BK175.out⟩, ⟨dL2_ HB GE164 GE175⟩⟩
       ·rw [if_neg c21] at H
        have c21b0 : (t173 == 1250) = false := beq_eq_false_iff_ne.mpr c21
        have c21b1 : (t173 != 1250) = true := bne_iff_ne.mpr c21
        have H' := Aside0.mk H
        clear H
        obtain ⟨Ao32, co32, eo32⟩ := Kd.R_slice HO161.out
        subst eo32
        obtain ⟨Ao33, co33, eo33⟩ := Kd.R_slice HO172.out
        subst eo33
        go_wp2
        go_meet
        case rel => exact ⟨_, (false), tS_, H', ⟨by first | omega | exact Nat.le_refl _⟩, ⟨by (with_reducible repeat (first | apply Kd.R_alloc | apply Kd.R_drewN | apply Kd.R_drew)); exact Kd.R_mono (Kd.R_far (p := ⟨gb175, 2, none⟩) (Kd.R_far (p := ⟨gb175, 1, none⟩) (Kd.R_far (p := ⟨gb175, 0, none⟩) (Kd.R_types HO158.out BK175.out (by decide)) (fun _ hk => hk.2) (.int .i64 t165)) (fun _ hk => hk.2) (.int .i64 t166)) (fun _ hk => hk.2) (.slice Ao15 t167.length co15)) (fun _ hk => hk.1.2)⟩, ⟨by (with_reducible repeat (first | apply Kd.R_alloc | apply Kd.R_drewN | apply Kd.R_drew)); exact Kd.R_mono (Kd.R_far (p := ⟨gb175, 2, none⟩) (Kd.R_far (p := ⟨gb175, 1, none⟩) (Kd.R_far (p := ⟨gb175, 0, none⟩) (Kd.R_types HO169.out BK175.out (by decide)) (fun _ hk => hk.2) (.int .i64 t165)) (fun _ hk => hk.2) (.int .i64 t166)) (fun _ hk => hk.2) (.slice Ao15 t167.length co15)) (fun _ hk => hk.1.2)⟩, ⟨by (with_reducible repeat (first | refine blk_drewN ?_ _ | refine blk_drew ?_ | refine blk_alloc ?_ _)); refine blk_far ?_ NB164_175.out _; (with_reducible repeat (first | refine blk_drewN ?_ _ | refine blk_drew ?_ | refine blk_alloc ?_ _)); refine blk_far ?_ NB164_175.out _; (with_reducible repeat (first | refine blk_drewN ?_ _ | refine blk_drew ?_ | refine blk_alloc ?_ _)); refine blk_far ?_ NB164_175.out _; (with_reducible repeat (first | refine blk_drewN ?_ _ | refine blk_drew ?_ | refine blk_alloc ?_ _)); exact BK164.out⟩, ⟨by (with_reducible repeat (first | refine blk_drewN ?_ _ | refine blk_drew ?_ | refine blk_alloc ?_ _)); refine blk_put (cs := #[.int .i64 t165, .int .i64 t166, .slice none 0 0]) ?_ 2 _ rfl; (with_reducible repeat (first | refine blk_drewN ?_ _ | refine blk_drew ?_ | refine blk_alloc ?_ _)); refine blk_put (cs := #[.int .i64 t165, .int .i64 0, .slice none 0 0]) ?_ 1 _ rfl; (with_reducible repeat (first | refine blk_drewN ?_ _ | refine blk_drew ?_ | refine blk_alloc ?_ _)); refine blk_put (cs := #[.int .i64 0, .int .i64 0, .slice none 0 0]) ?_ 0 _ rfl; (with_reducible repeat (first | refine blk_drewN ?_ _ | refine blk_drew ?_ | refine blk_alloc ?_ _)); exact BK175.out⟩, ⟨dL2_ HB GE164 GE175⟩⟩
      ·rw [if_neg c20] at H
       have c20b0 : ((t170.length : Int) == 5) = false := beq_eq_false_iff_ne.mpr c20
       have c20b1 : ((t170.length : Int) != 5) = true := bne_iff_ne.mpr c20
       have H' := Aside0.mk H
       clear H
       obtain ⟨Ao34, co34, eo34⟩ := Kd.R_slice HO161.out
       subst eo34
       obtain ⟨Ao35, co35, eo35⟩ := Kd.R_slice HO172.out
       subst eo35
       go_wp2
       go_meet
       case rel => exact ⟨_, (false), tS_, H', ⟨by first | omega | exact Nat.le_refl _⟩, ⟨by (with_reducible repeat (first | apply Kd.R_alloc | apply Kd.R_drewN | apply Kd.R_drew)); exact Kd.R_mono (Kd.R_far (p := ⟨gb175, 2, none⟩) (Kd.R_far (p := ⟨gb175, 1, none⟩) (Kd.R_far (p := ⟨gb175, 0, none⟩) (Kd.R_types HO158.out BK175.out (by decide)) (fun _ hk => hk.2) (.int .i64 t165)) (fun _ hk => hk.2) (.int .i64 t166)) (fun _ hk => hk.2) (.slice Ao15 t167.length co15)) (fun _ hk => hk.1.2)⟩, ⟨by (with_reducible repeat (first | apply Kd.R_alloc | apply Kd.R_drewN | apply Kd.R_drew)); exact Kd.R_mono (Kd.R_far (p := ⟨gb175, 2, none⟩) (Kd.R_far (p := ⟨gb175, 1, none⟩) (Kd.R_far (p := ⟨gb175, 0, none⟩) (Kd.R_types HO169.out BK175.out (by decide)) (fun _ hk => hk.2) (.int .i64 t165)) (fun _ hk => hk.2) (.int .i64 t166)) (fun _ hk => hk.2) (.slice Ao15 t167.length co15)) (fun _ hk => hk.1.2)⟩, ⟨by (with_reducible repeat (first | refine blk_drewN ?_ _ | refine blk_drew ?_ | refine blk_alloc ?_ _)); refine blk_far ?_ NB164_175.out _; (with_reducible repeat (first | refine blk_drewN ?_ _ | refine blk_drew ?_ | refine blk_alloc ?_ _)); refine blk_far ?_ NB164_175.out _; (with_reducible repeat (first | refine blk_drewN ?_ _ | refine blk_drew ?_ | refine blk_alloc ?_ _)); refine blk_far ?_ NB164_175.out _; (with_reducible repeat (first | refine blk_drewN ?_ _ | refine blk_drew ?_ | refine blk_alloc ?_ _)); exact BK164.out⟩, ⟨by (with_reducible repeat (first | refine blk_drewN ?_ _ | refine blk_drew ?_ | refine blk_alloc ?_ _)); refine blk_put (cs := #[.int .i64 t165, .int .i64 t166, .slice none 0 0]) ?_ 2 _ rfl; (with_reducible repeat (first | refine blk_drewN ?_ _ | refine blk_drew ?_ | refine blk_alloc ?_ _)); refine blk_put (cs := #[.int .i64 t165, .int .i64 0, .slice none 0 0]) ?_ 1 _ rfl; (with_reducible repeat (first | refine blk_drewN ?_ _ | refine blk_drew ?_ | refine blk_alloc ?_ _)); refine blk_put (cs := #[.int .i64 0, .int .i64 0, .slice none 0 0]) ?_ 0 _ rfl; (with_reducible repeat (first | refine blk_drewN ?_ _ | refine blk_drew ?_ | refine blk_alloc ?_ _)); exact BK175.out⟩, ⟨dL2_ HB GE164 GE175⟩⟩
     ·rw [if_neg c19] at H
      have c19b0 : (t162 == 250) = false := beq_eq_false_iff_ne.mpr c19
      have c19b1 : (t162 != 250) = true := bne_iff_ne.mpr c19
      have H' := Aside0.mk H
      clear H
      obtain ⟨Ao36, co36, eo36⟩ := Kd.R_slice HO161.out
      subst eo36
      go_wp2
      go_meet
      case rel => exact ⟨_, (false), tS_, H', ⟨by first | omega | exact Nat.le_refl _⟩, ⟨by (with_reducible repeat (first | apply Kd.R_alloc | apply Kd.R_drewN | apply Kd.R_drew)); exact Kd.R_mono (Kd.R_far (p := ⟨gb175, 2, none⟩) (Kd.R_far (p := ⟨gb175, 1, none⟩) (Kd.R_far (p := ⟨gb175, 0, none⟩) (Kd.R_types HO158.out BK175.out (by decide)) (fun _ hk => hk.2) (.int .i64 t165)) (fun _ hk => hk.2) (.int .i64 t166)) (fun _ hk => hk.2) (.slice Ao15 t167.length co15)) (fun _ hk => hk.1.2)⟩, ⟨by (with_reducible repeat (first | apply Kd.R_alloc | apply Kd.R_drewN | apply Kd.R_drew)); exact Kd.R_mono (Kd.R_far (p := ⟨gb175, 2, none⟩) (Kd.R_far (p := ⟨gb175, 1, none⟩) (Kd.R_far (p := ⟨gb175, 0, none⟩) (Kd.R_types HO169.out BK175.out (by decide)) (fun _ hk => hk.2) (.int .i64 t165)) (fun _ hk => hk.2) (.int .i64 t166)) (fun _ hk => hk.2) (.slice Ao15 t167.length co15)) (fun _ hk => hk.1.2)⟩, ⟨by (with_reducible repeat (first | refine blk_drewN ?_ _ | refine blk_drew ?_ | refine blk_alloc ?_ _)); refine blk_far ?_ NB164_175.out _; (with_reducible repeat (first | refine blk_drewN ?_ _ | refine blk_drew ?_ | refine blk_alloc ?_ _)); refine blk_far ?_ NB164_175.out _; (with_reducible repeat (first | refine blk_drewN ?_ _ | refine blk_drew ?_ | refine blk_alloc ?_ _)); refine blk_far ?_ NB164_175.out _; (with_reducible repeat (first | refine blk_drewN ?_ _ | refine blk_drew ?_ | refine blk_alloc ?_ _)); exact BK164.out⟩, ⟨by (with_reducible repeat (first | refine blk_drewN ?_ _ | refine blk_drew ?_ | refine blk_alloc ?_ _)); refine blk_put (cs := #[.int .i64 t165, .int .i64 t166, .slice none 0 0]) ?_ 2 _ rfl; (with_reducible repeat (first | refine blk_drewN ?_ _ | refine blk_drew ?_ | refine blk_alloc ?_ _)); refine blk_put (cs := #[.int .i64 t165, .int .i64 0, .slice none 0 0]) ?_ 1 _ rfl; (with_reducible repeat (first | refine blk_drewN ?_ _ | refine blk_drew ?_ | refine blk_alloc ?_ _)); refine blk_put (cs := #[.int .i64 0, .int .i64 0, .slice none 0 0]) ?_ 0 _ rfl; (with_reducible repeat (first | refine blk_drewN ?_ _ | refine blk_drew ?_ | refine blk_alloc ?_ _)); exact BK175.out⟩, ⟨dL2_ HB GE164 GE175⟩⟩
    ·rw [if_neg c18] at H
     have c18b0 : ((t159.length : Int) == 1) = false := beq_eq_false_iff_ne.mpr c18
     have c18b1 : ((t159.length : Int) != 1) = true := bne_iff_ne.mpr c18
     have H' := Aside0.mk H
     clear H
     obtain ⟨Ao37, co37, eo37⟩ := Kd.R_slice HO161.out
     subst eo37
     go_wp2
     go_meet
     case rel => exact ⟨_, (false), tS_, H', ⟨by first | omega | exact Nat.le_refl _⟩, ⟨by (with_reducible repeat (first | apply Kd.R_alloc | apply Kd.R_drewN | apply Kd.R_drew)); exact Kd.R_mono (Kd.R_far (p := ⟨gb175, 2, none⟩) (Kd.R_far (p := ⟨gb175, 1, none⟩) (Kd.R_far (p := ⟨gb175, 0, none⟩) (Kd.R_types HO158.out BK175.out (by decide)) (fun _ hk => hk.2) (.int .i64 t165)) (fun _ hk => hk.2) (.int .i64 t166)) (fun _ hk => hk.2) (.slice Ao15 t167.length co15)) (fun _ hk => hk.1.2)⟩, ⟨by (with_reducible repeat (first | apply Kd.R_alloc | apply Kd.R_drewN | apply Kd.R_drew)); exact Kd.R_mono (Kd.R_far (p := ⟨gb175, 2, none⟩) (Kd.R_far (p := ⟨gb175, 1, none⟩) (Kd.R_far (p := ⟨gb175, 0, none⟩) (Kd.R_types HO169.out BK175.out (by decide)) (fun _ hk => hk.2) (.int .i64 t165)) (fun _ hk => hk.2) (.int .i64 t166)) (fun _ hk => hk.2) (.slice Ao15 t167.length co15)) (fun _ hk => hk.1.2)⟩, ⟨by (with_reducible repeat (first | refine blk_drewN ?_ _ | refine blk_drew ?_ | refine blk_alloc ?_ _)); refine blk_far ?_ NB164_175.out _; (with_reducible repeat (first | refine blk_drewN ?_ _ | refine blk_drew ?_ | refine blk_alloc ?_ _)); refine blk_far ?_ NB164_175.out _; (with_reducible repeat (first | refine blk_drewN ?_ _ | refine blk_drew ?_ | refine blk_alloc ?_ _)); refine blk_far ?_ NB164_175.out _; (with_reducible repeat (first | refine blk_drewN ?_ _ | refine blk_drew ?_ | refine blk_alloc ?_ _)); exact BK164.out⟩, ⟨by (with_reducible repeat (first | refine blk_drewN ?_ _ | refine blk_drew ?_ | refine blk_alloc ?_ _)); refine blk_put (cs := #[.int .i64 t165, .int .i64 t166, .slice none 0 0]) ?_ 2 _ rfl; (with_reducible repeat (first | refine blk_drewN ?_ _ | refine blk_drew ?_ | refine blk_alloc ?_ _)); refine blk_put (cs := #[.int .i64 t165, .int .i64 0, .slice none 0 0]) ?_ 1 _ rfl; (with_reducible repeat (first | refine blk_drewN ?_ _ | refine blk_drew ?_ | refine blk_alloc ?_ _)); refine blk_put (cs := #[.int .i64 0, .int .i64 0, .slice none 0 0]) ?_ 0 _ rfl; (with_reducible repeat (first | refine blk_drewN ?_ _ | refine blk_drew ?_ | refine blk_alloc ?_ _)); exact BK175.out⟩, ⟨dL2_ HB GE164 GE175⟩⟩
   ·rw [if_neg c17] at H
    have c17b0 : (t174 == 0) = false := beq_eq_false_iff_ne.mpr c17
    have c17b1 : (t174 != 0) = true := bne_iff_ne.mpr c17
    have H' := Aside0.mk H
    clear H
    go_wp2
    go_meet
    case rel => exact ⟨_, (false), tS_, H', ⟨by first | omega | exact Nat.le_refl _⟩, ⟨by (with_reducible repeat (first | apply Kd.R_alloc | apply Kd.R_drewN | apply Kd.R_drew)); exact Kd.R_mono (Kd.R_far (p := ⟨gb175, 2, none⟩) (Kd.R_far (p := ⟨gb175, 1, none⟩) (Kd.R_far (p := ⟨gb175, 0, none⟩) (Kd.R_types HO158.out BK175.out (by decide)) (fun _ hk => hk.2) (.int .i64 t165)) (fun _ hk => hk.2) (.int .i64 t166)) (fun _ hk => hk.2) (.slice Ao15 t167.length co15)) (fun _ hk => hk.1.2)⟩, ⟨by (with_reducible repeat (first | apply Kd.R_alloc | apply Kd.R_drewN | apply Kd.R_drew)); exact Kd.R_mono (Kd.R_far (p := ⟨gb175, 2, none⟩) (Kd.R_far (p := ⟨gb175, 1, none⟩) (Kd.R_far (p := ⟨gb175, 0, none⟩) (Kd.R_types HO169.out BK175.out (by decide)) (fun _ hk => hk.2) (.int .i64 t165)) (fun _ hk => hk.2) (.int .i64 t166)) (fun _ hk => hk.2) (.slice Ao15 t167.length co15)) (fun _ hk => hk.1.2)⟩, ⟨by (with_reducible repeat (first | refine blk_drewN ?_ _ | refine blk_drew ?_ | refine blk_alloc ?_ _)); refine blk_far ?_ NB164_175.out _; (with_reducible repeat (first | refine blk_drewN ?_ _ | refine blk_drew ?_ | refine blk_alloc ?_ _)); refine blk_far ?_ NB164_175.out _; (with_reducible repeat (first | refine blk_drewN ?_ _ | refine blk_drew ?_ | refine blk_alloc ?_ _)); refine blk_far ?_ NB164_175.out _; (with_reducible repeat (first | refine blk_drewN ?_ _ | refine blk_drew ?_ | refine blk_alloc ?_ _)); exact BK164.out⟩, ⟨by (with_reducible repeat (first | refine blk_drewN ?_ _ | refine blk_drew ?_ | refine blk_alloc ?_ _)); refine blk_put (cs := #[.int .i64 t165, .int .i64 t166, .slice none 0 0]) ?_ 2 _ rfl; (with_reducible repeat (first | refine blk_drewN ?_ _ | refine blk_drew ?_ | refine blk_alloc ?_ _)); refine blk_put (cs := #[.int .i64 t165, .int .i64 0, .slice none 0 0]) ?_ 1 _ rfl; (with_reducible repeat (first | refine blk_drewN ?_ _ | refine blk_drew ?_ | refine blk_alloc ?_ _)); refine blk_put (cs := #[.int .i64 0, .int .i64 0, .slice none 0 0]) ?_ 0 _ rfl; (with_reducible repeat (first | refine blk_drewN ?_ _ | refine blk_drew ?_ | refine blk_alloc ?_ _)); exact BK175.out⟩, ⟨dL2_ HB GE164 GE175⟩⟩
  ·rw [if_neg c16] at H
   have c16b0 : (t163 == 0) = false := beq_eq_false_iff_ne.mpr c16
   have c16b1 : (t163 != 0) = true := bne_iff_ne.mpr c16
   (first | rw [c16b0] | (simp only [i64_w, i32_w]; rw [c16b0]) | skip)
   have H' := Aside0.mk H
   clear H
   go_wp2
   go_meet
   case rel => exact ⟨_, (false), tS_, H', ⟨by first | omega | exact Nat.le_refl _⟩, ⟨by (with_reducible repeat (first | apply Kd.R_alloc | apply Kd.R_drewN | apply Kd.R_drew)); exact Kd.R_mono (Kd.R_far (p := ⟨gb175, 2, none⟩) (Kd.R_far (p := ⟨gb175, 1, none⟩) (Kd.R_far (p := ⟨gb175, 0, none⟩) (Kd.R_types HO158.out BK175.out (by decide)) (fun _ hk => hk.2) (.int .i64 t165)) (fun _ hk => hk.2) (.int .i64 t166)) (fun _ hk => hk.2) (.slice Ao15 t167.length co15)) (fun _ hk => hk.1.2)⟩, ⟨by (with_reducible repeat (first | apply Kd.R_alloc | apply Kd.R_drewN | apply Kd.R_drew)); exact Kd.R_mono (Kd.R_far (p := ⟨gb175, 2, none⟩) (Kd.R_far (p := ⟨gb175, 1, none⟩) (Kd.R_far (p := ⟨gb175, 0, none⟩) (Kd.R_types HO169.out BK175.out (by decide)) (fun _ hk => hk.2) (.int .i64 t165)) (fun _ hk => hk.2) (.int .i64 t166)) (fun _ hk => hk.2) (.slice Ao15 t167.length co15)) (fun _ hk => hk.1.2)⟩, ⟨by (with_reducible repeat (first | refine blk_drewN ?_ _ | refine blk_drew ?_ | refine blk_alloc ?_ _)); refine blk_far ?_ NB164_175.out _; (with_reducible repeat (first | refine blk_drewN ?_ _ | refine blk_drew ?_ | refine blk_alloc ?_ _)); refine blk_far ?_ NB164_175.out _; (with_reducible repeat (first | refine blk_drewN ?_ _ | refine blk_drew ?_ | refine blk_alloc ?_ _)); refine blk_far ?_ NB164_175.out _; (with_reducible repeat (first | refine blk_drewN ?_ _ | refine blk_drew ?_ | refine blk_alloc ?_ _)); exact BK164.out⟩, ⟨by (with_reducible repeat (first | refine blk_drewN ?_ _ | refine blk_drew ?_ | refine blk_alloc ?_ _)); refine blk_put (cs := #[.int .i64 t165, .int .i64 t166, .slice none 0 0]) ?_ 2 _ rfl; (with_reducible repeat (first | refine blk_drewN ?_ _ | refine blk_drew ?_ | refine blk_alloc ?_ _)); refine blk_put (cs := #[.int .i64 t165, .int .i64 0, .slice none 0 0]) ?_ 1 _ rfl; (with_reducible repeat (first | refine blk_drewN ?_ _ | refine blk_drew ?_ | refine blk_alloc ?_ _)); refine blk_put (cs := #[.int .i64 0, .int .i64 0, .slice none 0 0]) ?_ 0 _ rfl; (with_reducible repeat (first | refine blk_drewN ?_ _ | refine blk_drew ?_ | refine blk_alloc ?_ _)); exact BK175.out⟩, ⟨dL2_ HB GE164 GE175⟩⟩
 case rest =>
  clear HC4
  try clear c16
  try clear c17
  try clear c18
  try clear c19
  try clear c20
  try clear c21
  try clear c22
  try clear c23
  try clear hcz14_0
  try clear hcz14_1
  try clear hcz14_2
  try clear hcz9_0
  try clear hcz9_1
  try clear hcz9_2
  try clear hfz14_0
  try clear hfz14_1
  try clear hfz14_2
  try clear hfz9_0
  try clear hfz9_1
  try clear hfz9_2
  obtain ⟨kq, x0_3, rfl, HA, HJ3, HO_165002, HO_176002, BK164, BK175, HB⟩ := hcut
  cases kq with
  | zero => exact absurd HA.out (by simp [hinterlandlaw02_known.j0])
  | succ kj3 =>
   have H := HA.out
   clear HA
   simp only [hinterlandlaw02_known.j0] at H
   obtain rfl := Option.some.inj H
   go_wp2
   go_ret
   exact ⟨tE_, dL2_ HB GE164 GE175⟩

end Go.Proofs.Ytchflcnegpnkkaa.Q
