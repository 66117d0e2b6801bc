-- PRINTED by print.py (a twelfth state) out of the translation. Not trusted: Lean checks it.
import Derived.Test.YtchflcnegpnkkabPrs
import Derived.Test.YtchflcnegpnkkabQ0
import Derived.Test.YtchflcnegpnkkabQ13
import Derived.Test.YtchflcnegpnkkabQ14
namespace Go.Proofs.Ytchflcnegpnkkab.Q
open Go.RowKit Go.Proofs.YtchflcnegpnkkabPrs Go.Proofs.YtchflcnegpnkkabOwn Go.Proofs.YtchflcnegpnkkabW.PrintWords Go.Proofs.YtchflcnegpnkkabW.PrintLast Go.Proofs.YtchflcnegpnkkabW.PrintMore
attribute [local go_sem] max2_int min2_int max_two min_two max_three min_three max_four min_four   -- for this text's walks alone
set_option linter.unusedVariables false
set_option linter.unusedSimpArgs false

/-! ### hinterlandlaw02_known: function 7 -/
def hinterlandlaw02_known.j0 : Nat → Bool → Option (Bool)
  | 0, _ => none
  | k + 1, x0 => some x0
def hinterlandlaw02_known.f (k : Nat)  : Option (Bool) := (hinterlandlaw02_flat.f k 4 4 3).bind fun bt179 => ((land_Shift.f k bt179.1 bt179.2.1 bt179.2.2 2 2 true ([] : List Int)).bind fun bt184 => ((land_Shift.f k bt184.1 bt184.2.1 bt184.2.2.1 2 2 true ([] : List Int)).bind fun bt195 => (if bt184.2.2.2.2.2 = 0 then (if bt195.2.2.2.2.2 = 0 then (if (bt184.2.2.2.1.length : Int) = 1 then (if bt184.2.2.2.2.1 = 250 then (if (bt195.2.2.2.1.length : Int) = 5 then (if bt195.2.2.2.2.1 = 1250 then (if (bt195.2.2.1.length : Int) = 25 then (if 12 < (bt195.2.2.1.length : Int) then (hinterlandlaw02_known.j0 k ((rd bt195.2.2.1 12) == 5)) else (none)) else (hinterlandlaw02_known.j0 k false)) else (hinterlandlaw02_known.j0 k false)) else (hinterlandlaw02_known.j0 k false)) else (hinterlandlaw02_known.j0 k false)) else (hinterlandlaw02_known.j0 k false)) else (hinterlandlaw02_known.j0 k false)) else (hinterlandlaw02_known.j0 k false))))
theorem hinterlandlaw02_known.mono_l : ∀ k, (∀ y0, LeO (hinterlandlaw02_known.j0 k y0) (hinterlandlaw02_known.j0 (k + 1) y0))
  | 0 => fun _ r h => by simp [hinterlandlaw02_known.j0] at h
  | k + 1 => by
    have ih0 := hinterlandlaw02_known.mono_l k
    · intro y0
      unfold hinterlandlaw02_known.j0
      repeat' first
      | (with_reducible first | exact ih0 _ | exact hinterlandlaw02_flat.mono _ _ _ _ | exact land_Shift.mono _ _ _ _ _ _ _ _ | exact LeO.refl _ | exact LeO.none _ | refine LeO.ite ?_ ?_ | refine LeO.bind ?_ (fun _ => ?_))
      | exact ih0 _
      | exact hinterlandlaw02_flat.mono _ _ _ _
      | exact land_Shift.mono _ _ _ _ _ _ _ _
      | exact LeO.none _
      | refine LeO.ite ?_ ?_
      | refine LeO.bind ?_ (fun _ => ?_)
theorem hinterlandlaw02_known.mono : ∀ k, LeO (hinterlandlaw02_known.f k ) (hinterlandlaw02_known.f (k + 1) ) := by
  intro  k
  have ih0 := hinterlandlaw02_known.mono_l k
  unfold hinterlandlaw02_known.f
  repeat' first
      | (with_reducible first | exact ih0 _ | exact hinterlandlaw02_flat.mono _ _ _ _ | exact land_Shift.mono _ _ _ _ _ _ _ _ | exact LeO.refl _ | exact LeO.none _ | refine LeO.ite ?_ ?_ | refine LeO.bind ?_ (fun _ => ?_))
      | exact ih0 _
      | exact hinterlandlaw02_flat.mono _ _ _ _
      | exact land_Shift.mono _ _ _ _ _ _ _ _
      | exact LeO.none _
      | refine LeO.ite ?_ ?_
      | refine LeO.bind ?_ (fun _ => ?_)
set_option maxHeartbeats 8000000 in
set_option maxRecDepth 100000 in
theorem hinterlandlaw02_known.calls (k : Nat)  (r : Bool) (w : World) (h : hinterlandlaw02_known.f k  = some r) :
    Calls Try.prog 7 #[] w fun e w' => e = .returned (.bool r) ∧ Below w.heap.size w w' := by
 have hu24 := Try.underlying24
 have HB := Aside0.mk (Below.refl w.heap.size w)
 have H : ((hinterlandlaw02_flat.f k 4 4 3).bind fun bt179 => ((land_Shift.f k bt179.1 bt179.2.1 bt179.2.2 2 2 true ([] : List Int)).bind fun bt184 => ((land_Shift.f k bt184.1 bt184.2.1 bt184.2.2.1 2 2 true ([] : List Int)).bind fun bt195 => (if bt184.2.2.2.2.2 = 0 then (if bt195.2.2.2.2.2 = 0 then (if (bt184.2.2.2.1.length : Int) = 1 then (if bt184.2.2.2.2.1 = 250 then (if (bt195.2.2.2.1.length : Int) = 5 then (if bt195.2.2.2.2.1 = 1250 then (if (bt195.2.2.1.length : Int) = 25 then (if 12 < (bt195.2.2.1.length : Int) then (hinterlandlaw02_known.j0 k ((rd bt195.2.2.1 12) == 5)) else (none)) else (hinterlandlaw02_known.j0 k false)) else (hinterlandlaw02_known.j0 k false)) else (hinterlandlaw02_known.j0 k false)) else (hinterlandlaw02_known.j0 k false)) else (hinterlandlaw02_known.j0 k false)) else (hinterlandlaw02_known.j0 k false)) else (hinterlandlaw02_known.j0 k false))))) = some r := h
 clear h
 replace H := Option.bind_eq_some_iff.mp H
 obtain ⟨⟨t179, t180, t181⟩, A10, H⟩ := H
 replace H : ((land_Shift.f k t179 t180 t181 2 2 true ([] : List Int)).bind fun bt184 => ((land_Shift.f k bt184.1 bt184.2.1 bt184.2.2.1 2 2 true ([] : List Int)).bind fun bt195 => (if bt184.2.2.2.2.2 = 0 then (if bt195.2.2.2.2.2 = 0 then (if (bt184.2.2.2.1.length : Int) = 1 then (if bt184.2.2.2.2.1 = 250 then (if (bt195.2.2.2.1.length : Int) = 5 then (if bt195.2.2.2.2.1 = 1250 then (if (bt195.2.2.1.length : Int) = 25 then (if 12 < (bt195.2.2.1.length : Int) then (hinterlandlaw02_known.j0 k ((rd bt195.2.2.1 12) == 5)) else (none)) else (hinterlandlaw02_known.j0 k false)) else (hinterlandlaw02_known.j0 k false)) else (hinterlandlaw02_known.j0 k false)) else (hinterlandlaw02_known.j0 k false)) else (hinterlandlaw02_known.j0 k false)) else (hinterlandlaw02_known.j0 k false)) else (hinterlandlaw02_known.j0 k false)))) = some r := H
 have A1 := Aside0.mk A10
 clear A10
 replace H := Option.bind_eq_some_iff.mp H
 obtain ⟨⟨t184, t185, t186, t189, t192, t193⟩, A20, H⟩ := H
 replace H : ((land_Shift.f k t184 t185 t186 2 2 true ([] : List Int)).bind fun bt195 => (if t193 = 0 then (if bt195.2.2.2.2.2 = 0 then (if (t189.length : Int) = 1 then (if t192 = 250 then (if (bt195.2.2.2.1.length : Int) = 5 then (if bt195.2.2.2.2.1 = 1250 then (if (bt195.2.2.1.length : Int) = 25 then (if 12 < (bt195.2.2.1.length : Int) then (hinterlandlaw02_known.j0 k ((rd bt195.2.2.1 12) == 5)) else (none)) else (hinterlandlaw02_known.j0 k false)) else (hinterlandlaw02_known.j0 k false)) else (hinterlandlaw02_known.j0 k false)) else (hinterlandlaw02_known.j0 k false)) else (hinterlandlaw02_known.j0 k false)) else (hinterlandlaw02_known.j0 k false)) else (hinterlandlaw02_known.j0 k false))) = some r := H
 have A2 := Aside0.mk A20
 clear A20
 replace H := Option.bind_eq_some_iff.mp H
 obtain ⟨⟨t195, t196, t197, t200, t203, t204⟩, A30, H⟩ := H
 replace H : (if t193 = 0 then (if t204 = 0 then (if (t189.length : Int) = 1 then (if t192 = 250 then (if (t200.length : Int) = 5 then (if t203 = 1250 then (if (t197.length : Int) = 25 then (if 12 < (t197.length : Int) then (hinterlandlaw02_known.j0 k ((rd t197 12) == 5)) else (none)) else (hinterlandlaw02_known.j0 k false)) else (hinterlandlaw02_known.j0 k false)) else (hinterlandlaw02_known.j0 k false)) else (hinterlandlaw02_known.j0 k false)) else (hinterlandlaw02_known.j0 k false)) else (hinterlandlaw02_known.j0 k false)) else (hinterlandlaw02_known.j0 k false)) = some r := H
 have A3 := Aside0.mk A30
 clear A30
 have HC4 := Aside0.mk H
 clear H
 go_enter Try.func7, Try.ntmps7
 go_upto_region 3 with (first | ((with_reducible refine gate_callee (f := 21) rfl ?_); refine goesL_ (some 10) rfl rfl Try.func21 (by kernel_rfl) rfl #[.int .i64 4, .int .i64 4, .int .i64 3] rfl tA_ ?_; (with_reducible refine (hinterlandlaw02_flat.calls k 4 4 3 t179 t180 t181 _ A1.out).mono ?_); rintro e w5 ⟨v182, rfl, ho0, hb⟩; refine ⟨_, rfl, ?_⟩; have HO183 := Aside0.mk (Kd.R_lower ho0 (below_size (dL_ HB))); replace HB := Aside0.mk (below_step (dL_ HB) hb); obtain ⟨Ao6, co6, eo6⟩ := Kd.R_slice HO183.out; subst eo6) | ((with_reducible refine gate_callee (f := 20) rfl ?_); refine goesL_ (some 11) rfl rfl Try.func20 (by kernel_rfl) rfl #[.agg #[.int .i64 t179, .int .i64 t180, .slice Ao6 t181.length co6], .int .i64 2, .int .i64 2, .bool true, .slice none 0 0] rfl tA_ ?_; (refine (land_Shift.calls k t179 t180 _ _ t181 2 2 true _ _ ([] : List Int) t184 t185 t186 t189 t192 t193 _ ?side1 ?side2 ?side3 ?side4 A2.out).mono ?_); (case side1 => repeat (first | exact (Kd.R_reads' HO183.out).2.2 | (with_reducible refine Kd.C_alloc ?_ _) | (with_reducible refine Kd.C_drewN ?_ _) | (with_reducible refine Kd.C_drew ?_))); (case side2 => exact (Kd.R_reads' HO183.out).2.1); (case side3 => exact Kd.C_nil _ _); (case side4 => exact Nat.le_refl _); rintro e w7 ⟨v187, v190, rfl, ho0, ho1, hb⟩; refine ⟨_, rfl, ?_⟩; have HO188 := Aside0.mk (Kd.R_lower (Kd.R_new' ho0 (Kd.R_lt (dR_ HO183))) (below_size (dL_ HB))); replace HO183 := Aside0.mk (Kd.R_elder' (dR_ HO183) (Kd.R_base ho0) hb); have HO191 := Aside0.mk (Kd.R_lower ho1 (below_size (dL_ HB))); replace HB := Aside0.mk (below_step (dL_ HB) hb)) | ((with_reducible refine gate_dst (N := 1) rfl ?_); (try (refine gate_guard (by rfl) ?_; dsimp only)); refine box_event ?hg (N := 1) ?hd (cs := #[.int .i64 0, .int .i64 0, .slice none 0 0]) (t := 24) ?hr ?_; (case hd => rfl); (case hg => rfl); (case hr => first | (go_simp; done) | (go_simp; rfl)); intro gb194 hg w8 hbox hb; replace HO183 := Aside0.mk (Kd.R_below (dR_ HO183) hb); replace HO188 := Aside0.mk (Kd.R_below (dR_ HO188) hb); replace HO191 := Aside0.mk (Kd.R_below (dR_ HO191) hb); have BK194 := Aside0.mk (hbox); have GW194 := Aside0.mk ((dS_ hg (dL_ HB) : w.heap.size ≤ gb194)); have GE194 := Aside0.mk ((dS_ hg (dL_ HB) : w.heap.size ≤ gb194)); replace HB := Aside0.mk (below_step (dL_ HB) hb); clear hb hbox hg; obtain ⟨hcz9_0, hcz9_1, hcz9_2, hfz9_0, hfz9_1, hfz9_2⟩ := cs3_ BK194.out; obtain ⟨Ao10, co10, eo10⟩ := Kd.R_slice HO188.out; subst eo10) | ((with_reducible refine gate_callee (f := 20) rfl ?_); refine goesL_ (some 18) rfl rfl Try.func20 (by kernel_rfl) rfl #[.agg #[.int .i64 t184, .int .i64 t185, .slice Ao10 t186.length co10], .int .i64 2, .int .i64 2, .bool true, .slice none 0 0] rfl tA_ ?_; (refine (land_Shift.calls k t184 t185 _ _ t186 2 2 true _ _ ([] : List Int) t195 t196 t197 t200 t203 t204 _ ?side1 ?side2 ?side3 ?side4 A3.out).mono ?_); (case side1 => refine (Kd.R_reads' (e := 3) (base := w.heap.size) (ok := fun k_ => (True ∧ some k_ ≠ (.slice Ao6 t181.length co6 : Value).ownBlock)) (n := t186.length) (c := co10) ?_).2.2; exact (by (with_reducible repeat (first | apply Kd.R_alloc | apply Kd.R_drewN | apply Kd.R_drew)); exact (Kd.R_mono (Kd.R_far (p := ⟨gb194, 2, none⟩) (Kd.R_far (p := ⟨gb194, 1, none⟩) (Kd.R_far (p := ⟨gb194, 0, none⟩) (Kd.R_types HO188.out BK194.out (by decide)) (fun _ hk => hk.2) (.int .i64 t184)) (fun _ hk => hk.2) (.int .i64 t185)) (fun _ hk => hk.2) (.slice Ao10 t186.length co10)) (fun _ h_ => h_.1)))); (case side2 => exact (Kd.R_reads' HO188.out).2.1); (case side3 => exact Kd.C_nil _ _); (case side4 => exact Nat.le_refl _); rintro e w11 ⟨v198, v201, rfl, ho0, ho1, hb⟩; refine ⟨_, rfl, ?_⟩; have HO199 := Aside0.mk (Kd.R_lower (Kd.R_new' (Kd.R_new' ho0 (Kd.R_lt (by (with_reducible repeat (first | apply Kd.R_alloc | apply Kd.R_drewN | apply Kd.R_drew)); exact (Kd.R_mono (Kd.R_far (p := ⟨gb194, 2, none⟩) (Kd.R_far (p := ⟨gb194, 1, none⟩) (Kd.R_far (p := ⟨gb194, 0, none⟩) (Kd.R_types HO183.out BK194.out (by decide)) (fun _ hk => hk.2) (.int .i64 t184)) (fun _ hk => hk.2) (.int .i64 t185)) (fun _ hk => hk.2) (.slice Ao10 t186.length co10)) (fun _ h_ => h_.1))))) (Kd.R_lt (by (with_reducible repeat (first | apply Kd.R_alloc | apply Kd.R_drewN | apply Kd.R_drew)); exact (Kd.R_mono (Kd.R_far (p := ⟨gb194, 2, none⟩) (Kd.R_far (p := ⟨gb194, 1, none⟩) (Kd.R_far (p := ⟨gb194, 0, none⟩) (Kd.R_types HO188.out BK194.out (by decide)) (fun _ hk => hk.2) (.int .i64 t184)) (fun _ hk => hk.2) (.int .i64 t185)) (fun _ hk => hk.2) (.slice Ao10 t186.length co10)) (fun _ h_ => h_.1))))) (below_size (dL1_ HB GE194))); replace HO183 := Aside0.mk (Kd.R_elder' (by (with_reducible repeat (first | apply Kd.R_alloc | apply Kd.R_drewN | apply Kd.R_drew)); exact (Kd.R_mono (Kd.R_far (p := ⟨gb194, 2, none⟩) (Kd.R_far (p := ⟨gb194, 1, none⟩) (Kd.R_far (p := ⟨gb194, 0, none⟩) (Kd.R_types HO183.out BK194.out (by decide)) (fun _ hk => hk.2) (.int .i64 t184)) (fun _ hk => hk.2) (.int .i64 t185)) (fun _ hk => hk.2) (.slice Ao10 t186.length co10)) (fun _ h_ => h_.1))) (Kd.R_base ho0) hb); replace HO188 := Aside0.mk (Kd.R_elder' (by (with_reducible repeat (first | apply Kd.R_alloc | apply Kd.R_drewN | apply Kd.R_drew)); exact (Kd.R_mono (Kd.R_far (p := ⟨gb194, 2, none⟩) (Kd.R_far (p := ⟨gb194, 1, none⟩) (Kd.R_far (p := ⟨gb194, 0, none⟩) (Kd.R_types HO188.out BK194.out (by decide)) (fun _ hk => hk.2) (.int .i64 t184)) (fun _ hk => hk.2) (.int .i64 t185)) (fun _ hk => hk.2) (.slice Ao10 t186.length co10)) (fun _ h_ => h_.1))) (Kd.R_base ho0) hb); have HO202 := Aside0.mk (Kd.R_lower (Kd.R_new' ho1 (Kd.R_lt (by (with_reducible repeat (first | apply Kd.R_alloc | apply Kd.R_drewN | apply Kd.R_drew)); exact (Kd.R_mono (Kd.R_far (p := ⟨gb194, 2, none⟩) (Kd.R_far (p := ⟨gb194, 1, none⟩) (Kd.R_far (p := ⟨gb194, 0, none⟩) (Kd.R_types HO191.out BK194.out (by decide)) (fun _ hk => hk.2) (.int .i64 t184)) (fun _ hk => hk.2) (.int .i64 t185)) (fun _ hk => hk.2) (.slice Ao10 t186.length co10)) (fun _ h_ => h_.1))))) (below_size (dL1_ HB GE194))); replace HO191 := Aside0.mk (Kd.R_elder' (by (with_reducible repeat (first | apply Kd.R_alloc | apply Kd.R_drewN | apply Kd.R_drew)); exact (Kd.R_mono (Kd.R_far (p := ⟨gb194, 2, none⟩) (Kd.R_far (p := ⟨gb194, 1, none⟩) (Kd.R_far (p := ⟨gb194, 0, none⟩) (Kd.R_types HO191.out BK194.out (by decide)) (fun _ hk => hk.2) (.int .i64 t184)) (fun _ hk => hk.2) (.int .i64 t185)) (fun _ hk => hk.2) (.slice Ao10 t186.length co10)) (fun _ h_ => h_.1))) (Kd.R_base ho1) hb); replace BK194 := Aside0.mk (blk_below (g := gb194) (o := .cells #[.int .i64 t184, .int .i64 t185, .slice Ao10 t186.length co10] 24 (0, 0)) (by (with_reducible repeat (first | refine blk_drewN ?_ _ | refine blk_drew ?_ | refine blk_alloc ?_ _)); refine blk_put (cs := #[.int .i64 t184, .int .i64 t185, .slice none 0 0]) ?_ 2 _ rfl; (with_reducible repeat (first | refine blk_drewN ?_ _ | refine blk_drew ?_ | refine blk_alloc ?_ _)); refine blk_put (cs := #[.int .i64 t184, .int .i64 0, .slice none 0 0]) ?_ 1 _ rfl; (with_reducible repeat (first | refine blk_drewN ?_ _ | refine blk_drew ?_ | refine blk_alloc ?_ _)); refine blk_put (cs := #[.int .i64 0, .int .i64 0, .slice none 0 0]) ?_ 0 _ rfl; (with_reducible repeat (first | refine blk_drewN ?_ _ | refine blk_drew ?_ | refine blk_alloc ?_ _)); exact BK194.out) hb); replace HB := Aside0.mk (below_step (dL1_ HB GE194) hb)) | ((with_reducible refine gate_dst (N := 5) rfl ?_); (try (refine gate_guard (by rfl) ?_; dsimp only)); refine box_event ?hg (N := 5) ?hd (cs := #[.int .i64 0, .int .i64 0, .slice none 0 0]) (t := 24) ?hr ?_; (case hd => rfl); (case hg => rfl); (case hr => first | (go_simp; done) | (go_simp; rfl)); intro gb205 hg w12 hbox hb; replace HO183 := Aside0.mk (Kd.R_below (dR_ HO183) hb); replace HO188 := Aside0.mk (Kd.R_below (dR_ HO188) hb); replace HO191 := Aside0.mk (Kd.R_below (dR_ HO191) hb); replace HO199 := Aside0.mk (Kd.R_below (dR_ HO199) hb); replace HO202 := Aside0.mk (Kd.R_below (dR_ HO202) hb); have BK205 := Aside0.mk (hbox); have GW205 := Aside0.mk ((dS_ hg (dL1_ HB GE194) : w.heap.size ≤ gb205)); have GE205 := Aside0.mk ((dS_ hg (dL1_ HB GE194) : w.heap.size ≤ gb205)); replace HB := Aside0.mk (below_step (dL1_ HB GE194) hb); have NB194_205 := Aside0.mk ((by rw [hg]; exact Nat.ne_of_lt (blk_lt (dB_ BK194)) : gb194 ≠ gb205)); have NB205_194 := Aside0.mk ((by rw [hg]; exact Nat.ne_of_gt (blk_lt (dB_ BK194)) : gb205 ≠ gb194)); replace BK194 := Aside0.mk (blk_below (g := gb194) (o := .cells #[.int .i64 t184, .int .i64 t185, .slice Ao10 t186.length co10] 24 (0, 0)) (dB_ BK194) hb); clear hb hbox hg; have hnb13 := NB205_194.out; have hnc13 := NB194_205.out; obtain ⟨hcz14_0, hcz14_1, hcz14_2, hfz14_0, hfz14_1, hfz14_2⟩ := cs3_ BK205.out; obtain ⟨Ao15, co15, eo15⟩ := Kd.R_slice HO199.out; subst eo15))
 (try simp only [Act.put, List.setIfInBounds_toArray, List.set_cons_zero, List.set_cons_succ])
 go_cut [0] (fun v0 wc => ∃ (kq : Nat) (x0_3 : Bool), v0 = .bool x0_3 ∧ Aside0 (hinterlandlaw02_known.j0 kq x0_3 = some r) ∧ Aside0 (kq ≤ k) ∧ Aside0 (Kd.R (Kd.int .i64) 3 wc w.heap.size (fun k_ => some k_ ≠ ((.slice Ao15 t197.length co15) : Value).ownBlock) (.slice Ao10 t186.length co10) t186) ∧ Aside0 (Kd.R (Kd.int .i64) 3 wc w.heap.size (fun k_ => some k_ ≠ ((.slice Ao10 t186.length co10) : Value).ownBlock) (.slice Ao15 t197.length co15) t197) ∧ Aside0 (wc.heap[gb194]? = some (.cells #[.int .i64 t184, .int .i64 t185, (.slice Ao10 t186.length co10)] 24 (0, 0))) ∧ Aside0 (wc.heap[gb205]? = some (.cells #[.int .i64 t195, .int .i64 t196, (.slice Ao15 t197.length co15)] 24 (0, 0))) ∧ Aside0 (Below w.heap.size w wc))
 case first =>
  have H := HC4.out
  clear HC4
  by_cases c16 : t193 = 0
  ·rw [if_pos c16] at H
   have c16b0 : (t193 == 0) = true := beq_iff_eq.mpr c16
   have c16b1 : (t193 != 0) = false := bne_eq_false_iff_eq.mpr c16
   clear c16
   (first | rw [c16b0] | (simp only [i64_w, i32_w]; rw [c16b0]) | skip)
   by_cases c17 : t204 = 0
   ·rw [if_pos c17] at H
    have c17b0 : (t204 == 0) = true := beq_iff_eq.mpr c17
    have c17b1 : (t204 != 0) = false := bne_eq_false_iff_eq.mpr c17
    clear c17
    by_cases c18 : (t189.length : Int) = 1
    ·rw [if_pos c18] at H
     have c18b0 : ((t189.length : Int) == 1) = true := beq_iff_eq.mpr c18
     have c18b1 : ((t189.length : Int) != 1) = false := bne_eq_false_iff_eq.mpr c18
     clear c18
     by_cases c19 : t192 = 250
     ·rw [if_pos c19] at H
      have c19b0 : (t192 == 250) = true := beq_iff_eq.mpr c19
      have c19b1 : (t192 != 250) = false := bne_eq_false_iff_eq.mpr c19
      clear c19
      by_cases c20 : (t200.length : Int) = 5
      ·rw [if_pos c20] at H
       have c20b0 : ((t200.length : Int) == 5) = true := beq_iff_eq.mpr c20
       have c20b1 : ((t200.length : Int) != 5) = false := bne_eq_false_iff_eq.mpr c20
       clear c20
       by_cases c21 : t203 = 1250
       ·rw [if_pos c21] at H
        have c21b0 : (t203 == 1250) = true := beq_iff_eq.mpr c21
        have c21b1 : (t203 != 1250) = false := bne_eq_false_iff_eq.mpr c21
        clear c21
        by_cases c22 : (t197.length : Int) = 25
        ·rw [if_pos c22] at H
         have c22b0 : ((t197.length : Int) == 25) = true := beq_iff_eq.mpr c22
         have c22b1 : ((t197.length : Int) != 25) = false := bne_eq_false_iff_eq.mpr c22
         clear c22
         by_cases c23 : 12 < (t197.length : Int)
         ·rw [if_pos c23] at H
          have c23b0 : decide (12 < (t197.length : Int)) = true := decide_eq_true c23
          have c23b1 : decide (12 < t197.length) = true := decide_eq_true (by omega)
          clear c23
          have H' := Aside0.mk H
          clear H
          obtain ⟨Ao24, co24, eo24⟩ := Kd.R_slice HO191.out
          subst eo24
          obtain ⟨Ao25, co25, eo25⟩ := Kd.R_slice HO202.out
          subst eo25
          have hnb26 := NB205_194.out
          have hnc26 := NB194_205.out
          obtain ⟨hcz27_0, hcz27_1, hcz27_2, hfz27_0, hfz27_1, hfz27_2⟩ := cs3_ BK205.out
          have p206 : 0 ≤ (12 : Int) := (by omega)
          have q206 : 12 < (t197.length : Int) := of_decide_eq_true tW_
          obtain ⟨ad206, e206, hx206_0⟩ := Kd.at_int (Kd.R_reads' HO199.out).2.2 12 p206 q206
          cases e206
          (try simp only [show (12 : Int).toNat = 12 from rfl, Nat.reduceMul, Nat.reduceEqDiff, Go.Addr.add, ↓reduceIte] at hx206_0)
          have qi206 : (12 < t197.length) = True := eq_true (by omega)
          (try rw [show ((12 : Int)).toNat = 12 from rfl] at hx206_0)
          have hn206_0 : ad206.block ≠ gb205 := Kd.own_blk (Kd.R_ne HO199.out BK205.out (by decide))
          have hn206_1 : ad206.block ≠ gb205 := Kd.own_blk (Kd.R_ne HO199.out BK205.out (by decide))
          have hn206_2 : ad206.block ≠ gb205 := Kd.own_blk (Kd.R_ne HO199.out BK205.out (by decide))
          replace hx206_0 := (cell_far (p := ⟨gb205, 0, none⟩) (aB_ hn206_0) (.int .i64 t195)).trans hx206_0
          replace hx206_0 := (cell_far (p := ⟨gb205, 1, none⟩) (aB_ hn206_1) (.int .i64 t196)).trans hx206_0
          replace hx206_0 := (cell_far (p := ⟨gb205, 2, none⟩) (aB_ hn206_2) (.slice (some ad206) t197.length co15)).trans hx206_0
          clear hn206_0
          clear hn206_1
          clear hn206_2
          replace p206 := eq_true p206
          replace q206 := eq_true q206
          go_wp2
          go_meet
          case rel => exact ⟨_, (((rd t197 12) == 5)), tS_, H', ⟨by first | omega | exact Nat.le_refl _⟩, ⟨by (with_reducible repeat (first | apply Kd.R_alloc | apply Kd.R_drewN | apply Kd.R_drew)); exact Kd.R_mono (Kd.R_far (p := ⟨gb205, 2, none⟩) (Kd.R_far (p := ⟨gb205, 1, none⟩) (Kd.R_far (p := ⟨gb205, 0, none⟩) (Kd.R_types HO188.out BK205.out (by decide)) (fun _ hk => hk.2) (.int .i64 t195)) (fun _ hk => hk.2) (.int .i64 t196)) (fun _ hk => hk.2) (.slice (some ad206) t197.length co15)) (fun _ hk => hk.1.2)⟩, ⟨by (with_reducible repeat (first | apply Kd.R_alloc | apply Kd.R_drewN | apply Kd.R_drew)); exact Kd.R_mono (Kd.R_far (p := ⟨gb205, 2, none⟩) (Kd.R_far (p := ⟨gb205, 1, none⟩) (Kd.R_far (p := ⟨gb205, 0, none⟩) (Kd.R_types HO199.out BK205.out (by decide)) (fun _ hk => hk.2) (.int .i64 t195)) (fun _ hk => hk.2) (.int .i64 t196)) (fun _ hk => hk.2) (.slice (some ad206) t197.length co15)) (fun _ hk => hk.1.2)⟩, ⟨by (with_reducible repeat (first | refine blk_drewN ?_ _ | refine blk_drew ?_ | refine blk_alloc ?_ _)); refine blk_far ?_ NB194_205.out _; (with_reducible repeat (first | refine blk_drewN ?_ _ | refine blk_drew ?_ | refine blk_alloc ?_ _)); refine blk_far ?_ NB194_205.out _; (with_reducible repeat (first | refine blk_drewN ?_ _ | refine blk_drew ?_ | refine blk_alloc ?_ _)); refine blk_far ?_ NB194_205.out _; (with_reducible repeat (first | refine blk_drewN ?_ _ | refine blk_drew ?_ | refine blk_alloc ?_ _)); exact BK194.out⟩, ⟨by (with_reducible repeat (first | refine blk_drewN ?_ _ | refine blk_drew ?_ | refine blk_alloc ?_ _)); refine blk_put (cs := #[.int .i64 t195, .int .i64 t196, .slice none 0 0]) ?_ 2 _ rfl; (with_reducible repeat (first | refine blk_drewN ?_ _ | refine blk_drew ?_ | refine blk_alloc ?_ _)); refine blk_put (cs := #[.int .i64 t195, .int .i64 0, .slice none 0 0]) ?_ 1 _ rfl; (with_reducible repeat (first | refine blk_drewN ?_ _ | refine blk_drew ?_ | refine blk_alloc ?_ _)); refine blk_put (cs := #[.int .i64 0, .int .i64 0, .slice none 0 0]) ?_ 0 _ rfl; (with_reducible repeat (first | refine blk_drewN ?_ _ | refine blk_drew ?_ | refine blk_alloc ?_ _)); exact BK205.out⟩, ⟨dL2_ HB GE194 GE205⟩⟩
         ·rw [if_neg c23] at H
          exact absurd H (by simp)
        ·rw [if_neg c22] at H
         have c22b0 : ((t197.length : Int) == 25) = false := beq_eq_false_iff_ne.mpr c22
         have c22b1 : ((t197.length : Int) != 25) = true := bne_iff_ne.mpr c22
         have H' := Aside0.mk H
         clear H
         obtain ⟨Ao28, co28, eo28⟩ := Kd.R_slice HO191.out
         subst eo28
         obtain ⟨Ao29, co29, eo29⟩ := Kd.R_slice HO202.out
         subst eo29
         have hnb30 := NB205_194.out
         have hnc30 := NB194_205.out
         obtain ⟨hcz31_0, hcz31_1, hcz31_2, hfz31_0, hfz31_1, hfz31_2⟩ := cs3_ BK205.out
         go_wp2
         go_meet
         case rel => exact ⟨_, (false), tS_, H', ⟨by first | omega | exact Nat.le_refl _⟩, ⟨by (with_reducible repeat (first | apply Kd.R_alloc | apply Kd.R_drewN | apply Kd.R_drew)); exact Kd.R_mono (Kd.R_far (p := ⟨gb205, 2, none⟩) (Kd.R_far (p := ⟨gb205, 1, none⟩) (Kd.R_far (p := ⟨gb205, 0, none⟩) (Kd.R_types HO188.out BK205.out (by decide)) (fun _ hk => hk.2) (.int .i64 t195)) (fun _ hk => hk.2) (.int .i64 t196)) (fun _ hk => hk.2) (.slice Ao15 t197.length co15)) (fun _ hk => hk.1.2)⟩, ⟨by (with_reducible repeat (first | apply Kd.R_alloc | apply Kd.R_drewN | apply Kd.R_drew)); exact Kd.R_mono (Kd.R_far (p := ⟨gb205, 2, none⟩) (Kd.R_far (p := ⟨gb205, 1, none⟩) (Kd.R_far (p := ⟨gb205, 0, none⟩) (Kd.R_types HO199.out BK205.out (by decide)) (fun _ hk => hk.2) (.int .i64 t195)) (fun _ hk => hk.2) (.int .i64 t196)) (fun _ hk => hk.2) (.slice Ao15 t197.length co15)) (fun _ hk => hk.1.2)⟩, ⟨by (with_reducible repeat (first | refine blk_drewN ?_ _ | refine blk_drew ?_ | refine blk_alloc ?_ _)); refine blk_far ?_ NB194_205.out _; (with_reducible repeat (first | refine blk_drewN ?_ _ | refine blk_drew ?_ | refine blk_alloc ?_ _)); refine blk_far ?_ NB194_205.out _; (with_reducible repeat (first | refine blk_drewN ?_ _ | refine blk_drew ?_ | refine blk_alloc ?_ _)); refine blk_far ?_ NB194_205.out _; (with_reducible repeat (first | refine blk_drewN ?_ _ | refine blk_drew ?_ | refine blk_alloc ?_ _)); exact BK194.out⟩, ⟨by (with_reducible repeat (first | refine blk_drewN ?_ _ | refine blk_drew ?_ | refine blk_alloc ?_ _)); refine blk_put (cs := #[.int .i64 t195, .int .i64 t196, .slice none 0 0]) ?_ 2 _ rfl; (with_reducible repeat (first | refine blk_drewN ?_ _ | refine blk_drew ?_ | refine blk_alloc ?_ _)); refine blk_put (cs := #[.int .i64 t195, .int .i64 0, .slice none 0 0]) ?_ 1 _ rfl; (with_reducible repeat (first | refine blk_drewN ?_ _ | refine blk_drew ?_ | refine blk_alloc ?_ _)); refine blk_put (cs := #[.int .i64 0, .int .i64 0, .slice none 0 0]) ?_ 0 _ rfl; (with_reducible repeat (first | refine blk_drewN ?_ _ | refine blk_drew ?_ | refine blk_alloc ?_ _)); exact BK205.out⟩, ⟨dL2_ HB GE194 GE205⟩⟩
       ·rw [if_neg c21] at H
        have c21b0 : (t203 == 1250) = false := beq_eq_false_iff_ne.mpr c21
        have c21b1 : (t203 != 1250) = true := bne_iff_ne.mpr c21
        have H' := Aside0.mk H
        clear H
        obtain ⟨Ao32, co32, eo32⟩ := Kd.R_slice HO191.out
        subst eo32
        obtain ⟨Ao33, co33, eo33⟩ := Kd.R_slice HO202.out
        subst eo33
        go_wp2
        go_meet
        case rel => exact ⟨_, (false), tS_, H', ⟨by first | omega | exact Nat.le_refl _⟩, ⟨by (with_reducible repeat (first | apply Kd.R_alloc | apply Kd.R_drewN | apply Kd.R_drew)); exact Kd.R_mono (Kd.R_far (p := ⟨gb205, 2, none⟩) (Kd.R_far (p := ⟨gb205, 1, none⟩) (Kd.R_far (p := ⟨gb205, 0, none⟩) (Kd.R_types HO188.out BK205.out (by decide)) (fun _ hk => hk.2) (.int .i64 t195)) (fun _ hk => hk.2) (.int .i64 t196)) (fun _ hk => hk.2) (.slice Ao15 t197.length co15)) (fun _ hk => hk.1.2)⟩, ⟨by (with_reducible repeat (first | apply Kd.R_alloc | apply Kd.R_drewN | apply Kd.R_drew)); exact Kd.R_mono (Kd.R_far (p := ⟨gb205, 2, none⟩) (Kd.R_far (p := ⟨gb205, 1, none⟩) (Kd.R_far (p := ⟨gb205, 0, none⟩) (Kd.R_types HO199.out BK205.out (by decide)) (fun _ hk => hk.2) (.int .i64 t195)) (fun _ hk => hk.2) (.int .i64 t196)) (fun _ hk => hk.2) (.slice Ao15 t197.length co15)) (fun _ hk => hk.1.2)⟩, ⟨by (with_reducible repeat (first | refine blk_drewN ?_ _ | refine blk_drew ?_ | refine blk_alloc ?_ _)); refine blk_far ?_ NB194_205.out _; (with_reducible repeat (first | refine blk_drewN ?_ _ | refine blk_drew ?_ | refine blk_alloc ?_ _)); refine blk_far ?_ NB194_205.out _; (with_reducible repeat (first | refine blk_drewN ?_ _ | refine blk_drew ?_ | refine blk_alloc ?_ _)); refine blk_far ?_ NB194_205.out _; (with_reducible repeat (first | refine blk_drewN ?_ _ | refine blk_drew ?_ | refine blk_alloc ?_ _)); exact BK194.out⟩, ⟨by (with_reducible repeat (first | refine blk_drewN ?_ _ | refine blk_drew ?_ | refine blk_alloc ?_ _)); refine blk_put (cs := #[.int .i64 t195, .int .i64 t196, .slice none 0 0]) ?_ 2 _ rfl; (with_reducible repeat (first | refine blk_drewN ?_ _ | refine blk_drew ?_ | refine blk_alloc ?_ _)); refine blk_put (cs := #[.int .i64 t195, .int .i64 0, .slice none 0 0]) ?_ 1 _ rfl; (with_reducible repeat (first | refine blk_drewN ?_ _ | refine blk_drew ?_ | refine blk_alloc ?_ _)); refine blk_put (cs := #[.int .i64 0, .int .i64 0, .slice none 0 0]) ?_ 0 _ rfl; (with_reducible repeat (first | refine blk_drewN ?_ _ | refine blk_drew ?_ | refine blk_alloc ?_ _)); exact BK205.out⟩, ⟨dL2_ HB GE194 GE205⟩⟩
      ·rw [if_neg c20] at H
       have c20b0 : ((t200.length : Int) == 5) = false := beq_eq_false_iff_ne.mpr c20
       have c20b1 : ((t200.length : Int) != 5) = true := bne_iff_ne.mpr c20
       have H' := Aside0.mk H
       clear H
       obtain ⟨Ao34, co34, eo34⟩ := Kd.R_slice HO191.out
       subst eo34
       obtain ⟨Ao35, co35, eo35⟩ := Kd.R_slice HO202.out
       subst eo35
       go_wp2
       go_meet
       case rel => exact ⟨_, (false), tS_, H', ⟨by first | omega | exact Nat.le_refl _⟩, ⟨by (with_reducible repeat (first | apply Kd.R_alloc | apply Kd.R_drewN | apply Kd.R_drew)); exact Kd.R_mono (Kd.R_far (p := ⟨gb205, 2, none⟩) (Kd.R_far (p := ⟨gb205, 1, none⟩) (Kd.R_far (p := ⟨gb205, 0, none⟩) (Kd.R_types HO188.out BK205.out (by decide)) (fun _ hk => hk.2) (.int .i64 t195)) (fun _ hk => hk.2) (.int .i64 t196)) (fun _ hk => hk.2) (.slice Ao15 t197.length co15)) (fun _ hk => hk.1.2)⟩, ⟨by (with_reducible repeat (first | apply Kd.R_alloc | apply Kd.R_drewN | apply Kd.R_drew)); exact Kd.R_mono (Kd.R_far (p := ⟨gb205, 2, none⟩) (Kd.R_far (p := ⟨gb205, 1, none⟩) (Kd.R_far (p := ⟨gb205, 0, none⟩) (Kd.R_types HO199.out BK205.out (by decide)) (fun _ hk => hk.2) (.int .i64 t195)) (fun _ hk => hk.2) (.int .i64 t196)) (fun _ hk => hk.2) (.slice Ao15 t197.length co15)) (fun _ hk => hk.1.2)⟩, ⟨by (with_reducible repeat (first | refine blk_drewN ?_ _ | refine blk_drew ?_ | refine blk_alloc ?_ _)); refine blk_far ?_ NB194_205.out _; (with_reducible repeat (first | refine blk_drewN ?_ _ | refine blk_drew ?_ | refine blk_alloc ?_ _)); refine blk_far ?_ NB194_205.out _; (with_reducible repeat (first | refine blk_drewN ?_ _ | refine blk_drew ?_ | refine blk_alloc ?_ _)); refine blk_far ?_ NB194_205.out _; (with_reducible repeat (first | refine blk_drewN ?_ _ | refine blk_drew ?_ | refine blk_alloc ?_ _)); exact BK194.out⟩, ⟨by (with_reducible repeat (first | refine blk_drewN ?_ _ | refine blk_drew ?_ | refine blk_alloc ?_ _)); refine blk_put (cs := #[.int .i64 t195, .int .i64 t196, .slice none 0 0]) ?_ 2 _ rfl; (with_reducible repeat (first | refine blk_drewN ?_ _ | refine blk_drew ?_ | refine blk_alloc ?_ _)); refine blk_put (cs := #[.int .i64 t195, .int .i64 0, .slice none 0 0]) ?_ 1 _ rfl; (with_reducible repeat (first | refine blk_drewN ?_ _ | refine blk_drew ?_ | refine blk_alloc ?_ _)); refine blk_put (cs := #[.int .i64 0, .int .i64 0, .slice none 0 0]) ?_ 0 _ rfl; (with_reducible repeat (first | refine blk_drewN ?_ _ | refine blk_drew ?_ | refine blk_alloc ?_ _)); exact BK205.out⟩, ⟨dL2_ HB GE194 GE205⟩⟩
     ·rw [if_neg c19] at H
      have c19b0 : (t192 == 250) = false := beq_eq_false_iff_ne.mpr c19
      have c19b1 : (t192 != 250) = true := bne_iff_ne.mpr c19
      have H' := Aside0.mk H
      clear H
      obtain ⟨Ao36, co36, eo36⟩ := Kd.R_slice HO191.out
      subst eo36
      go_wp2
      go_meet
      case rel => exact ⟨_, (false), tS_, H', ⟨by first | omega | exact Nat.le_refl _⟩, ⟨by (with_reducible repeat (first | apply Kd.R_alloc | apply Kd.R_drewN | apply Kd.R_drew)); exact Kd.R_mono (Kd.R_far (p := ⟨gb205, 2, none⟩) (Kd.R_far (p := ⟨gb205, 1, none⟩) (Kd.R_far (p := ⟨gb205, 0, none⟩) (Kd.R_types HO188.out BK205.out (by decide)) (fun _ hk => hk.2) (.int .i64 t195)) (fun _ hk => hk.2) (.int .i64 t196)) (fun _ hk => hk.2) (.slice Ao15 t197.length co15)) (fun _ hk => hk.1.2)⟩, ⟨by (with_reducible repeat (first | apply Kd.R_alloc | apply Kd.R_drewN | apply Kd.R_drew)); exact Kd.R_mono (Kd.R_far (p := ⟨gb205, 2, none⟩) (Kd.R_far (p := ⟨gb205, 1, none⟩) (Kd.R_far (p := ⟨gb205, 0, none⟩) (Kd.R_types HO199.out BK205.out (by decide)) (fun _ hk => hk.2) (.int .i64 t195)) (fun _ hk => hk.2) (.int .i64 t196)) (fun _ hk => hk.2) (.slice Ao15 t197.length co15)) (fun _ hk => hk.1.2)⟩, ⟨by (with_reducible repeat (first | refine blk_drewN ?_ _ | refine blk_drew ?_ | refine blk_alloc ?_ _)); refine blk_far ?_ NB194_205.out _; (with_reducible repeat (first | refine blk_drewN ?_ _ | refine blk_drew ?_ | refine blk_alloc ?_ _)); refine blk_far ?_ NB194_205.out _; (with_reducible repeat (first | refine blk_drewN ?_ _ | refine blk_drew ?_ | refine blk_alloc ?_ _)); refine blk_far ?_ NB194_205.out _; (with_reducible repeat (first | refine blk_drewN ?_ _ | refine blk_drew ?_ | refine blk_alloc ?_ _)); exact BK194.out⟩, ⟨by (with_reducible repeat (first | refine blk_drewN ?_ _ | refine blk_drew ?_ | refine blk_alloc ?_ _)); refine blk_put (cs := #[.int .i64 t195, .int .i64 t196, .slice none 0 0]) ?_ 2 _ rfl; (with_reducible repeat (first | refine blk_drewN ?_ _ | refine blk_drew ?_ | refine blk_alloc ?_ _)); refine blk_put (cs := #[.int .i64 t195, .int .i64 0, .slice none 0 0]) ?_ 1 _ rfl; (with_reducible repeat (first | refine blk_drewN ?_ _ | refine blk_drew ?_ | refine blk_alloc ?_ _)); refine blk_put (cs := #[.int .i64 0, .int .i64 0, .slice none 0 0]) ?_ 0 _ rfl; (with_reducible repeat (first | refine blk_drewN ?_ _ | refine blk_drew ?_ | refine blk_alloc ?_ _)); exact BK205.out⟩, ⟨dL2_ HB GE194 GE205⟩⟩
    ·rw [if_neg c18] at H
     have c18b0 : ((t189.length : Int) == 1) = false := beq_eq_false_iff_ne.mpr c18
     have c18b1 : ((t189.length : Int) != 1) = true := bne_iff_ne.mpr c18
     have H' := Aside0.mk H
     clear H
     obtain ⟨Ao37, co37, eo37⟩ := Kd.R_slice HO191.out
     subst eo37
     go_wp2
     go_meet
     case rel => exact ⟨_, (false), tS_, H', ⟨by first | omega | exact Nat.le_refl _⟩, ⟨by (with_reducible repeat (first | apply Kd.R_alloc | apply Kd.R_drewN | apply Kd.R_drew)); exact Kd.R_mono (Kd.R_far (p := ⟨gb205, 2, none⟩) (Kd.R_far (p := ⟨gb205, 1, none⟩) (Kd.R_far (p := ⟨gb205, 0, none⟩) (Kd.R_types HO188.out BK205.out (by decide)) (fun _ hk => hk.2) (.int .i64 t195)) (fun _ hk => hk.2) (.int .i64 t196)) (fun _ hk => hk.2) (.slice Ao15 t197.length co15)) (fun _ hk => hk.1.2)⟩, ⟨by (with_reducible repeat (first | apply Kd.R_alloc | apply Kd.R_drewN | apply Kd.R_drew)); exact Kd.R_mono (Kd.R_far (p := ⟨gb205, 2, none⟩) (Kd.R_far (p := ⟨gb205, 1, none⟩) (Kd.R_far (p := ⟨gb205, 0, none⟩) (Kd.R_types HO199.out BK205.out (by decide)) (fun _ hk => hk.2) (.int .i64 t195)) (fun _ hk => hk.2) (.int .i64 t196)) (fun _ hk => hk.2) (.slice Ao15 t197.length co15)) (fun _ hk => hk.1.2)⟩, ⟨by (with_reducible repeat (first | refine blk_drewN ?_ _ | refine blk_drew ?_ | refine blk_alloc ?_ _)); refine blk_far ?_ NB194_205.out _; (with_reducible repeat (first | refine blk_drewN ?_ _ | refine blk_drew ?_ | refine blk_alloc ?_ _)); refine blk_far ?_ NB194_205.out _; (with_reducible repeat (first | refine blk_drewN ?_ _ | refine blk_drew ?_ | refine blk_alloc ?_ _)); refine blk_far ?_ NB194_205.out _; (with_reducible repeat (first | refine blk_drewN ?_ _ | refine blk_drew ?_ | refine blk_alloc ?_ _)); exact BK194.out⟩, ⟨by (with_reducible repeat (first | refine blk_drewN ?_ _ | refine blk_drew ?_ | refine blk_alloc ?_ _)); refine blk_put (cs := #[.int .i64 t195, .int .i64 t196, .slice none 0 0]) ?_ 2 _ rfl; (with_reducible repeat (first | refine blk_drewN ?_ _ | refine blk_drew ?_ | refine blk_alloc ?_ _)); refine blk_put (cs := #[.int .i64 t195, .int .i64 0, .slice none 0 0]) ?_ 1 _ rfl; (with_reducible repeat (first | refine blk_drewN ?_ _ | refine blk_drew ?_ | refine blk_alloc ?_ _)); refine blk_put (cs := #[.int .i64 0, .int .i64 0, .slice none 0 0]) ?_ 0 _ rfl; (with_reducible repeat (first | refine blk_drewN ?_ _ | refine blk_drew ?_ | refine blk_alloc ?_ _)); exact BK205.out⟩, ⟨dL2_ HB GE194 GE205⟩⟩
   ·rw [if_neg c17] at H
    have c17b0 : (t204 == 0) = false := beq_eq_false_iff_ne.mpr c17
    have c17b1 : (t204 != 0) = true := bne_iff_ne.mpr c17
    have H' := Aside0.mk H
    clear H
    go_wp2
    go_meet
    case rel => exact ⟨_, (false), tS_, H', ⟨by first | omega | exact Nat.le_refl _⟩, ⟨by (with_reducible repeat (first | apply Kd.R_alloc | apply Kd.R_drewN | apply Kd.R_drew)); exact Kd.R_mono (Kd.R_far (p := ⟨gb205, 2, none⟩) (Kd.R_far (p := ⟨gb205, 1, none⟩) (Kd.R_far (p := ⟨gb205, 0, none⟩) (Kd.R_types HO188.out BK205.out (by decide)) (fun _ hk => hk.2) (.int .i64 t195)) (fun _ hk => hk.2) (.int .i64 t196)) (fun _ hk => hk.2) (.slice Ao15 t197.length co15)) (fun _ hk => hk.1.2)⟩, ⟨by (with_reducible repeat (first | apply Kd.R_alloc | apply Kd.R_drewN | apply Kd.R_drew)); exact Kd.R_mono (Kd.R_far (p := ⟨gb205, 2, none⟩) (Kd.R_far (p := ⟨gb205, 1, none⟩) (Kd.R_far (p := ⟨gb205, 0, none⟩) (Kd.R_types HO199.out BK205.out (by decide)) (fun _ hk => hk.2) (.int .i64 t195)) (fun _ hk => hk.2) (.int .i64 t196)) (fun _ hk => hk.2) (.slice Ao15 t197.length co15)) (fun _ hk => hk.1.2)⟩, ⟨by (with_reducible repeat (first | refine blk_drewN ?_ _ | refine blk_drew ?_ | refine blk_alloc ?_ _)); refine blk_far ?_ NB194_205.out _; (with_reducible repeat (first | refine blk_drewN ?_ _ | refine blk_drew ?_ | refine blk_alloc ?_ _)); refine blk_far ?_ NB194_205.out _; (with_reducible repeat (first | refine blk_drewN ?_ _ | refine blk_drew ?_ | refine blk_alloc ?_ _)); refine blk_far ?_ NB194_205.out _; (with_reducible repeat (first | refine blk_drewN ?_ _ | refine blk_drew ?_ | refine blk_alloc ?_ _)); exact BK194.out⟩, ⟨by (with_reducible repeat (first | refine blk_drewN ?_ _ | refine blk_drew ?_ | refine blk_alloc ?_ _)); refine blk_put (cs := #[.int .i64 t195, .int .i64 t196, .slice none 0 0]) ?_ 2 _ rfl; (with_reducible repeat (first | refine blk_drewN ?_ _ | refine blk_drew ?_ | refine blk_alloc ?_ _)); refine blk_put (cs := #[.int .i64 t195, .int .i64 0, .slice none 0 0]) ?_ 1 _ rfl; (with_reducible repeat (first | refine blk_drewN ?_ _ | refine blk_drew ?_ | refine blk_alloc ?_ _)); refine blk_put (cs := #[.int .i64 0, .int .i64 0, .slice none 0 0]) ?_ 0 _ rfl; (with_reducible repeat (first | refine blk_drewN ?_ _ | refine blk_drew ?_ | refine blk_alloc ?_ _)); exact BK205.out⟩, ⟨dL2_ HB GE194 GE205⟩⟩
  ·rw [if_neg c16] at H
   have c16b0 : (t193 == 0) = false := beq_eq_false_iff_ne.mpr c16
   have c16b1 : (t193 != 0) = true := bne_iff_ne.mpr c16
   (first | rw [c16b0] | (simp only [i64_w, i32_w]; rw [c16b0]) | skip)
   have H' := Aside0.mk H
   clear H
   go_wp2
   go_meet
   case rel => exact ⟨_, (false), tS_, H', ⟨by first | omega | exact Nat.le_refl _⟩, ⟨by (with_reducible repeat (first | apply Kd.R_alloc | apply Kd.R_drewN | apply Kd.R_drew)); exact Kd.R_mono (Kd.R_far (p := ⟨gb205, 2, none⟩) (Kd.R_far (p := ⟨gb205, 1, none⟩) (Kd.R_far (p := ⟨gb205, 0, none⟩) (Kd.R_types HO188.out BK205.out (by decide)) (fun _ hk => hk.2) (.int .i64 t195)) (fun _ hk => hk.2) (.int .i64 t196)) (fun _ hk => hk.2) (.slice Ao15 t197.length co15)) (fun _ hk => hk.1.2)⟩, ⟨by (with_reducible repeat (first | apply Kd.R_alloc | apply Kd.R_drewN | apply Kd.R_drew)); exact Kd.R_mono (Kd.R_far (p := ⟨gb205, 2, none⟩) (Kd.R_far (p := ⟨gb205, 1, none⟩) (Kd.R_far (p := ⟨gb205, 0, none⟩) (Kd.R_types HO199.out BK205.out (by decide)) (fun _ hk => hk.2) (.int .i64 t195)) (fun _ hk => hk.2) (.int .i64 t196)) (fun _ hk => hk.2) (.slice Ao15 t197.length co15)) (fun _ hk => hk.1.2)⟩, ⟨by (with_reducible repeat (first | refine blk_drewN ?_ _ | refine blk_drew ?_ | refine blk_alloc ?_ _)); refine blk_far ?_ NB194_205.out _; (with_reducible repeat (first | refine blk_drewN ?_ _ | refine blk_drew ?_ | refine blk_alloc ?_ _)); refine blk_far ?_ NB194_205.out _; (with_reducible repeat (first | refine blk_drewN ?_ _ | refine blk_drew ?_ | refine blk_alloc ?_ _)); refine blk_far ?_ NB194_205.out _; (with_reducible repeat (first | refine blk_drewN ?_ _ | refine blk_drew ?_ | refine blk_alloc ?_ _)); exact BK194.out⟩, ⟨by (with_reducible repeat (first | refine blk_drewN ?_ _ | refine blk_drew ?_ | refine blk_alloc ?_ _)); refine blk_put (cs := #[.int .i64 t195, .int .i64 t196, .slice none 0 0]) ?_ 2 _ rfl; (with_reducible repeat (first | refine blk_drewN ?_ _ | refine blk_drew ?_ | refine blk_alloc ?_ _)); refine blk_put (cs := #[.int .i64 t195, .int .i64 0, .slice none 0 0]) ?_ 1 _ rfl; (with_reducible repeat (first | refine blk_drewN ?_ _ | refine blk_drew ?_ | refine blk_alloc ?_ _)); refine blk_put (cs := #[.int .i64 0, .int .i64 0, .slice none 0 0]) ?_ 0 _ rfl; (with_reducible repeat (first | refine blk_drewN ?_ _ | refine blk_drew ?_ | refine blk_alloc ?_ _)); exact BK205.out⟩, ⟨dL2_ HB GE194 GE205⟩⟩
 case rest =>
  clear HC4
  try clear c16
  try clear c17
  try clear c18
  try clear c19
  try clear c20
  try clear c21
  try clear c22
  try clear c23
  try clear hcz14_0
  try clear hcz14_1
  try clear hcz14_2
  try clear hcz9_0
  try clear hcz9_1
  try clear hcz9_2
  try clear hfz14_0
  try clear hfz14_1
  try clear hfz14_2
  try clear hfz9_0
  try clear hfz9_1
  try clear hfz9_2
  obtain ⟨kq, x0_3, rfl, HA, HJ3, HO_195002, HO_206002, BK194, BK205, HB⟩ := hcut
  cases kq with
  | zero => exact absurd HA.out (by simp [hinterlandlaw02_known.j0])
  | succ kj3 =>
   have H := HA.out
   clear HA
   simp only [hinterlandlaw02_known.j0] at H
   obtain rfl := Option.some.inj H
   go_wp2
   go_ret
   exact ⟨tE_, dL2_ HB GE194 GE205⟩

end Go.Proofs.Ytchflcnegpnkkab.Q
