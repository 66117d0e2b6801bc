-- PRINTED by print.py out of the translation. Not trusted: Lean checks it.
import Derived.Test.YtgnahbjpockdmabPrs
import Derived.Test.YtgnahbjpockdmabQ0
import Derived.Test.YtgnahbjpockdmabQ11
import Derived.Test.YtgnahbjpockdmabQ1
import Derived.Test.YtgnahbjpockdmabQ8
namespace Go.Proofs.Ytgnahbjpockdmab.Q
open Go.RowKit Go.Proofs.YtgnahbjpockdmabPrs Go.Proofs.YtgnahbjpockdmabOwn Go.Proofs.YtgnahbjpockdmabW.PrintWords Go.Proofs.YtgnahbjpockdmabW.PrintLast Go.Proofs.YtgnahbjpockdmabW.PrintMore
open List renaming setIfInBounds_toArray → sI_, set_cons_zero → s0_, set_cons_succ → sS_
attribute [local go_sem] max2_int min2_int max_two min_two max_three min_three max_four min_four   -- for this text's walks alone
set_option linter.unusedVariables false
set_option linter.unusedSimpArgs false

/-! ### cargo_compare: function 39 -/
def cargo_compare.f (k : Nat) (a0_0 : Int) (a0_1 : Int) (a0_2 : Int) (a0_3 : Int) (a0_4 : Int) (a0_5 : Int) (a1_0 : Int) (a1_1 : Int) (a1_2 : Int) (a1_3 : Int) (a1_4 : Int) (a1_5 : Int) : Option (Int) := (cmp_Compare_int.f a0_0 a1_0).bind fun t229 => ((cmp_Compare_int.f a0_1 a1_1).bind fun t230 => ((cmp_Compare_int.f a0_2 a1_2).bind fun t231 => ((cmp_Compare_int.f a0_3 a1_3).bind fun t232 => ((cmp_Or_int.f k (([t229, t230, t231, t232] : List Int))).bind fun t236 => (some t236)))))
theorem cargo_compare.mono : ∀ a0 a1 a2 a3 a4 a5 a6 a7 a8 a9 a10 a11 k, LeO (cargo_compare.f k a0 a1 a2 a3 a4 a5 a6 a7 a8 a9 a10 a11) (cargo_compare.f (k + 1) a0 a1 a2 a3 a4 a5 a6 a7 a8 a9 a10 a11) := by
  intro a0 a1 a2 a3 a4 a5 a6 a7 a8 a9 a10 a11 k
  unfold cargo_compare.f
  repeat' first
      | (with_reducible first | apply cmp_Or_int.mono | exact LeO.refl _ | exact LeO.none _ | refine LeO.ite ?_ ?_ | refine LeO.bind ?_ (fun _ => ?_))
def cargo_compare.T1 : Bool × List (List Nat × List Nat) := (true, [([], []), ([0], [0]), ([], []), ([2], [2]), ([1, 3], [1, 3]), ([], []), ([5], [5]), ([], []), ([7], [7]), ([6, 8, 4], [6, 8]), ([], []), ([10], [10]), ([], []), ([12], [12]), ([11, 13, 9], [11, 13]), ([], []), ([15], [15]), ([], []), ([17], [17]), ([16, 18, 14], [16, 18]), ([4, 9, 14, 19], [4, 9, 14, 19]), ([20, 19], [20]), ([21, 21, 0, 1, 2, 3, 4, 5, 6, 7, 8, 9, 10, 11, 12, 13, 14, 15, 16, 17, 18, 19, 20, 21], [21])])
def cargo_compare.B1 : List Nat := [0, 1, 0, 4, 15, 0, 32, 0, 128, 511, 0, 1024, 0, 4096, 16383, 0, 32768, 0, 131072, 524287, 1048575, 2097151, 4194303]
theorem cargo_compare.tab1 : rtab .any (opsOf Try.f39 1) = cargo_compare.T1 := by kernel_rfl
theorem cargo_compare.bits1 : waitsOk cargo_compare.T1.2 cargo_compare.B1 = true := by kernel_rfl
set_option maxHeartbeats 8000000 in
set_option maxRecDepth 100000 in
theorem cargo_compare.calls (k : Nat) (a0_0 : Int) (a0_1 : Int) (a0_2 : Int) (a0_3 : Int) (a0_4 : Int) (a0_5 : Int) (a1_0 : Int) (a1_1 : Int) (a1_2 : Int) (a1_3 : Int) (a1_4 : Int) (a1_5 : Int) (r : Int) (w : World) (h : cargo_compare.f k a0_0 a0_1 a0_2 a0_3 a0_4 a0_5 a1_0 a1_1 a1_2 a1_3 a1_4 a1_5 = some r) :
    Calls Try.prog 39 #[.agg #[.int .i64 a0_0, .int .i64 a0_1, .int .i64 a0_2, .int .i64 a0_3, .int .i64 a0_4, .int .i64 a0_5], .agg #[.int .i64 a1_0, .int .i64 a1_1, .int .i64 a1_2, .int .i64 a1_3, .int .i64 a1_4, .int .i64 a1_5]] w fun e w' => e = .returned (.int .i64 r) ∧ Below w.heap.size w w' := by
 have hu49 := Try.underlying49; have HB := Aside0.mk (Below.refl w.heap.size w); have H : ((cmp_Compare_int.f a0_0 a1_0).bind fun t229 => ((cmp_Compare_int.f a0_1 a1_1).bind fun t230 => ((cmp_Compare_int.f a0_2 a1_2).bind fun t231 => ((cmp_Compare_int.f a0_3 a1_3).bind fun t232 => ((cmp_Or_int.f k (([t229, t230, t231, t232] : List Int))).bind fun t236 => (some t236)))))) = some r := h; clear h; replace H := Option.bind_eq_some_iff.mp H; obtain ⟨t229, A30, H⟩ := H; have A3 := Aside0.mk A30; clear A30; replace H := Option.bind_eq_some_iff.mp H; obtain ⟨t230, A40, H⟩ := H; have A4 := Aside0.mk A40; clear A40; replace H := Option.bind_eq_some_iff.mp H; obtain ⟨t231, A50, H⟩ := H; have A5 := Aside0.mk A50; clear A50; replace H := Option.bind_eq_some_iff.mp H; obtain ⟨t232, A60, H⟩ := H; have A6 := Aside0.mk A60; clear A60; obtain ⟨y233, hy233⟩ : ∃ y_ : List Int, y_ = (([t229, t230, t231, t232] : List Int)) := ⟨_, rfl⟩; replace H : ((cmp_Or_int.f k y233).bind fun t236 => (some t236)) = some r := by first | (rw [hy233]; with_reducible exact H) | (have H2_ := (Option.bind_some _ _).symm.trans H; rw [hy233]; with_reducible exact H2_) | (have H2_ := (Option.bind_some _ _).symm.trans H; with_reducible exact H2_) | with_reducible exact H | (rw [hy233]; exact H) | exact H
 have Ny233 := Aside0.mk hy233; clear hy233; replace H := Option.bind_eq_some_iff.mp H; obtain ⟨t236, A70, H⟩ := H; have A7 := Aside0.mk A70; clear A70; obtain rfl := Option.some.inj H
 go_enter Try.func39, Try.ntmps39
 try go_wp2_with (first | ((with_reducible refine gate_dst (N := 2) rfl ?_); refine bx_ (N := 2) (cs := #[.int .i64 a0_0, .int .i64 a0_1, .int .i64 a0_2, .int .i64 a0_3, .int .i64 a0_4, .int .i64 a0_5]) (t := 49) ?_; intro gb227 hg w8 hbox hb; have BK227 := Aside0.mk (hbox); have GW227 := Aside0.mk ((dS_ hg (dL_ HB) : w.heap.size ≤ gb227)); have GE227 := GW227; replace HB := Aside0.mk (below_step (dL_ HB) hb); clear hb hbox hg) | ((with_reducible refine gate_dst (N := 3) rfl ?_); refine bx_ (N := 3) (cs := #[.int .i64 a1_0, .int .i64 a1_1, .int .i64 a1_2, .int .i64 a1_3, .int .i64 a1_4, .int .i64 a1_5]) (t := 49) ?_; intro gb228 hg w9 hbox hb; have BK228 := Aside0.mk (hbox); have GW228 := Aside0.mk ((dS_ hg (dL1_ HB GE227) : w.heap.size ≤ gb228)); have GE228 := GW228; replace HB := Aside0.mk (below_step (dL1_ HB GE227) hb); have NB227_228 := nb_ hg BK227; have NB228_227 := nc_ hg BK227; replace BK227 := bk_ BK227 hb; clear hb hbox hg))
 replace BK227 := Aside0.mk (blk_drew BK227.out); replace BK228 := Aside0.mk (blk_drew BK228.out); replace HB := Aside0.mk (below_drew1 HB.out); refine start_ (n := 23) (S := fun w' => w'.cell? ⟨gb227, 0, none⟩ = some (.int .i64 a0_0) ∧ w'.cell? ⟨gb227, 1, none⟩ = some (.int .i64 a0_1) ∧ w'.cell? ⟨gb227, 2, none⟩ = some (.int .i64 a0_2) ∧ w'.cell? ⟨gb227, 3, none⟩ = some (.int .i64 a0_3) ∧ w'.cell? ⟨gb227, 4, none⟩ = some (.int .i64 a0_4) ∧ w'.cell? ⟨gb227, 5, none⟩ = some (.int .i64 a0_5) ∧ w'.cell? ⟨gb228, 0, none⟩ = some (.int .i64 a1_0) ∧ w'.cell? ⟨gb228, 1, none⟩ = some (.int .i64 a1_1) ∧ w'.cell? ⟨gb228, 2, none⟩ = some (.int .i64 a1_2) ∧ w'.cell? ⟨gb228, 3, none⟩ = some (.int .i64 a1_3) ∧ w'.cell? ⟨gb228, 4, none⟩ = some (.int .i64 a1_4) ∧ w'.cell? ⟨gb228, 5, none⟩ = some (.int .i64 a1_5)) (ds := []) ⟨bN 23 0⟩ (by kernel_rfl) rfl rfl ⟨(blk_cell BK227.out 0).trans rfl, (blk_cell BK227.out 1).trans rfl, (blk_cell BK227.out 2).trans rfl, (blk_cell BK227.out 3).trans rfl, (blk_cell BK227.out 4).trans rfl, (blk_cell BK227.out 5).trans rfl, (blk_cell BK228.out 0).trans rfl, (blk_cell BK228.out 1).trans rfl, (blk_cell BK228.out 2).trans rfl, (blk_cell BK228.out 3).trans rfl, (blk_cell BK228.out 4).trans rfl, (blk_cell BK228.out 5).trans rfl⟩ (fun hHeld => ?_); refine with_tabW cargo_compare.tab1 cargo_compare.bits1 (fun HT_ HW_ => ?_)
 generalize w9.drew = w10 at BK227 BK228 HB hHeld ⊢; refine pu_ (i := 0) (N := some 5) (bA 1 23) HT_ rfl ?_; refine pu_ (i := 2) (N := some 7) ⟨bN 23 5⟩ HT_ rfl ?_; refine pu_ (i := 5) (N := some 10) ⟨bN 23 37⟩ HT_ rfl ?_; refine pu_ (i := 7) (N := some 12) ⟨bN 23 165⟩ HT_ rfl ?_; refine pu_ (i := 10) (N := some 15) ⟨bN 23 1189⟩ HT_ rfl ?_; refine pu_ (i := 12) (N := some 17) ⟨bN 23 5285⟩ HT_ rfl ?_; refine pu_ (i := 15) (N := some 20) ⟨bN 23 38053⟩ HT_ rfl ?_; refine pu_ (i := 17) (N := some 22) ⟨bN 23 169125⟩ HT_ rfl ?_; refine tk_ (i := 1) (N := some 6) ⟨bN 23 169127⟩ HT_ HW_ hHeld rfl ?_; refine tk_ (i := 3) (N := some 8) ⟨bN 23 169135⟩ HT_ HW_ hHeld rfl ?_; refine tk_ (i := 6) (N := some 11) ⟨bN 23 169199⟩ HT_ HW_ hHeld rfl ?_; refine tk_ (i := 8) (N := some 13) ⟨bN 23 169455⟩ HT_ HW_ hHeld rfl ?_; refine tk_ (i := 11) (N := some 16) ⟨bN 23 171503⟩ HT_ HW_ hHeld rfl ?_; refine tk_ (i := 13) (N := some 18) ⟨bN 23 179695⟩ HT_ HW_ hHeld rfl ?_; refine tk_ (i := 16) (N := some 21) ⟨bN 23 245231⟩ HT_ HW_ hHeld rfl ?_; refine tk_ (i := 18) (N := some 23) ⟨bN 23 507375⟩ HT_ HW_ hHeld rfl ?_; refine on_ (i := 4) (N := some 9) ⟨bN 23 507391⟩ HT_ rfl (fun K hK => ?_); refine goes_ Try.func50 (by kernel_rfl) rfl #[.int .i64 a0_0, .int .i64 a1_0] (by rfl) rfl rfl tA_ ?_
 with_reducible refine (cmp_Compare_int.calls a0_0 a1_0 t229 _ A3.out).mono ?_
 rintro e w' ⟨rfl, ⟨nd, rfl⟩⟩; refine ⟨_, rfl, ?_⟩; refine hK.out _ _ ⟨(blk_cell BK227.out 0).trans rfl, (blk_cell BK227.out 1).trans rfl, (blk_cell BK227.out 2).trans rfl, (blk_cell BK227.out 3).trans rfl, (blk_cell BK227.out 4).trans rfl, (blk_cell BK227.out 5).trans rfl, (blk_cell BK228.out 0).trans rfl, (blk_cell BK228.out 1).trans rfl, (blk_cell BK228.out 2).trans rfl, (blk_cell BK228.out 3).trans rfl, (blk_cell BK228.out 4).trans rfl, (blk_cell BK228.out 5).trans rfl⟩ (fun hHeld => ?_); clear hK K; refine norm_ (a' := ?_) ?_ ?_
 rotate_left
 ·show Act.put _ (some 9) _ = _
  simp only [Act.put, sI_, s0_, sS_, i64_w, i32_w]
  rfl
 refine on_ (i := 9) (N := some 14) ⟨bN 23 507903⟩ HT_ rfl (fun K hK => ?_); refine goes_ Try.func50 (by kernel_rfl) rfl #[.int .i64 a0_1, .int .i64 a1_1] (by rfl) rfl rfl tA_ ?_
 with_reducible refine (cmp_Compare_int.calls a0_1 a1_1 t230 _ A4.out).mono ?_
 rintro e w' ⟨rfl, ⟨nd, rfl⟩⟩; refine ⟨_, rfl, ?_⟩; refine hK.out _ _ ⟨(blk_cell BK227.out 0).trans rfl, (blk_cell BK227.out 1).trans rfl, (blk_cell BK227.out 2).trans rfl, (blk_cell BK227.out 3).trans rfl, (blk_cell BK227.out 4).trans rfl, (blk_cell BK227.out 5).trans rfl, (blk_cell BK228.out 0).trans rfl, (blk_cell BK228.out 1).trans rfl, (blk_cell BK228.out 2).trans rfl, (blk_cell BK228.out 3).trans rfl, (blk_cell BK228.out 4).trans rfl, (blk_cell BK228.out 5).trans rfl⟩ (fun hHeld => ?_); clear hK K; refine norm_ (a' := ?_) ?_ ?_
 rotate_left
 ·show Act.put _ (some 14) _ = _
  simp only [Act.put, sI_, s0_, sS_, i64_w, i32_w]
  rfl
 refine on_ (i := 14) (N := some 19) (bA 19 23) HT_ rfl (fun K hK => ?_); refine goes_ Try.func50 (by kernel_rfl) rfl #[.int .i64 a0_2, .int .i64 a1_2] (by rfl) rfl rfl tA_ ?_
 with_reducible refine (cmp_Compare_int.calls a0_2 a1_2 t231 _ A5.out).mono ?_
 rintro e w' ⟨rfl, ⟨nd, rfl⟩⟩; refine ⟨_, rfl, ?_⟩; refine hK.out _ _ ⟨(blk_cell BK227.out 0).trans rfl, (blk_cell BK227.out 1).trans rfl, (blk_cell BK227.out 2).trans rfl, (blk_cell BK227.out 3).trans rfl, (blk_cell BK227.out 4).trans rfl, (blk_cell BK227.out 5).trans rfl, (blk_cell BK228.out 0).trans rfl, (blk_cell BK228.out 1).trans rfl, (blk_cell BK228.out 2).trans rfl, (blk_cell BK228.out 3).trans rfl, (blk_cell BK228.out 4).trans rfl, (blk_cell BK228.out 5).trans rfl⟩ (fun hHeld => ?_); clear hK K; refine norm_ (a' := ?_) ?_ ?_
 rotate_left
 ·show Act.put _ (some 19) _ = _
  simp only [Act.put, sI_, s0_, sS_, i64_w, i32_w]
  rfl
 refine on_ (i := 19) (N := some 24) (bA 20 23) HT_ rfl (fun K hK => ?_); refine goes_ Try.func50 (by kernel_rfl) rfl #[.int .i64 a0_3, .int .i64 a1_3] (by rfl) rfl rfl tA_ ?_
 with_reducible refine (cmp_Compare_int.calls a0_3 a1_3 t232 _ A6.out).mono ?_
 rintro e w' ⟨rfl, ⟨nd, rfl⟩⟩; refine ⟨_, rfl, ?_⟩; refine hK.out _ _ ⟨(blk_cell BK227.out 0).trans rfl, (blk_cell BK227.out 1).trans rfl, (blk_cell BK227.out 2).trans rfl, (blk_cell BK227.out 3).trans rfl, (blk_cell BK227.out 4).trans rfl, (blk_cell BK227.out 5).trans rfl, (blk_cell BK228.out 0).trans rfl, (blk_cell BK228.out 1).trans rfl, (blk_cell BK228.out 2).trans rfl, (blk_cell BK228.out 3).trans rfl, (blk_cell BK228.out 4).trans rfl, (blk_cell BK228.out 5).trans rfl⟩ (fun hHeld => ?_); clear hK K; refine norm_ (a' := ?_) ?_ ?_
 rotate_left
 ·show Act.put _ (some 24) _ = _
  simp only [Act.put, sI_, s0_, sS_, i64_w, i32_w]
  rfl
 refine on_ (i := 20) (N := some 25) (bA 21 23) HT_ rfl (fun K hK => ?_); refine Kd.R_lit_step (Kd.int .i64) _ 3 ?hg (N := 25) ?hd (xs := ([t229, t230, t231, t232] : List Int)) (inner := [.int .i64 t229, .int .i64 t230, .int .i64 t231, .int .i64 t232]) (ok := fun _ => True) (okp := fun _ => True) ?hr ?hp (fun _ hk => hk) trivial (Below.refl _ _) (Nat.le_refl _) (by simp) ?_; (case hd => rfl); (case hg => rfl); (case hr => first | (go_simp; done) | (go_simp; rfl)); (case hp => exact (Reps.one (show Kd.M (Kd.int .i64) _ _ _ t229 [.int .i64 t229] from rfl) (Reps.one (show Kd.M (Kd.int .i64) _ _ _ t230 [.int .i64 t230] from rfl) (Reps.one (show Kd.M (Kd.int .i64) _ _ _ t231 [.int .i64 t231] from rfl) (Reps.one (show Kd.M (Kd.int .i64) _ _ _ t232 [.int .i64 t232] from rfl) (Reps.none _ _)))))); intro v234 w11 ho12 hb hg_ hnew_; clear hg_ hnew_
 (first | rw [← Ny233.out] at ho12 | (simp only [Int.reduceToNat] at ho12; rw [← Ny233.out] at ho12))
 have HO235 := Aside0.mk (Kd.R_lower ho12 (below_size (dL2_ HB GE227 GE228))); replace BK227 := bk_ BK227 hb; replace BK228 := bk_ BK228 hb; replace HB := Aside0.mk (below_step (dL2_ HB GE227 GE228) hb); clear hb ho12; obtain ⟨Ao13, co13, eo13⟩ := Kd.R_slice HO235.out
 (first | subst eo13 | (injection eo13 with f1_ f2_ f3_; have f4_ := f1_.symm; have f5_ := f3_.symm; clear f1_ f2_ f3_; subst f4_; subst f5_))
 refine hK.out _ _ ⟨(blk_cell BK227.out 0).trans rfl, (blk_cell BK227.out 1).trans rfl, (blk_cell BK227.out 2).trans rfl, (blk_cell BK227.out 3).trans rfl, (blk_cell BK227.out 4).trans rfl, (blk_cell BK227.out 5).trans rfl, (blk_cell BK228.out 0).trans rfl, (blk_cell BK228.out 1).trans rfl, (blk_cell BK228.out 2).trans rfl, (blk_cell BK228.out 3).trans rfl, (blk_cell BK228.out 4).trans rfl, (blk_cell BK228.out 5).trans rfl⟩ (fun hHeld => ?_); clear hK K; refine norm_ (a' := ?_) ?_ ?_
 rotate_left
 ·show Act.put _ (some 25) _ = _
  simp only [Act.put, sI_, s0_, sS_, i64_w, i32_w]
  rfl
 refine on_ (i := 21) (N := some 26) (bA 22 23) HT_ rfl (fun K hK => ?_); refine goes_ Try.func49 (by kernel_rfl) rfl #[.slice Ao13 y233.length co13] (by rfl) rfl rfl tA_ ?_
 with_reducible refine (cmp_Or_int.calls k _ _ y233 t236 _ ?side1 ?side2 A7.out).mono ?_
 (case side1 => exact rC_ (Kd.R_reads' HO235.out).2.2)
 (case side2 => exact (Kd.R_reads' HO235.out).2.1)
 rintro e w' ⟨rfl, ⟨nd, rfl⟩⟩; refine ⟨_, rfl, ?_⟩; refine hK.out _ _ ⟨(blk_cell BK227.out 0).trans rfl, (blk_cell BK227.out 1).trans rfl, (blk_cell BK227.out 2).trans rfl, (blk_cell BK227.out 3).trans rfl, (blk_cell BK227.out 4).trans rfl, (blk_cell BK227.out 5).trans rfl, (blk_cell BK228.out 0).trans rfl, (blk_cell BK228.out 1).trans rfl, (blk_cell BK228.out 2).trans rfl, (blk_cell BK228.out 3).trans rfl, (blk_cell BK228.out 4).trans rfl, (blk_cell BK228.out 5).trans rfl⟩ (fun hHeld => ?_); clear hK K; refine norm_ (a' := ?_) ?_ ?_
 rotate_left
 ·show Act.put _ (some 26) _ = _
  simp only [Act.put, sI_, s0_, sS_, i64_w, i32_w]
  rfl
 refine pu_ (i := 22) (N := some 4) (bA 23 23) HT_ rfl ?_; refine done_ (done_of HT_.out (by kernel_rfl)) ?_
 try go_wp2
 go_ret
 exact ⟨tE_, dL2_ HB GE227 GE228⟩

end Go.Proofs.Ytgnahbjpockdmab.Q
namespace Go.Proofs.Ytgnahbjpockdmab.Q
open Go.RowKit Go.Proofs.YtgnahbjpockdmabPrs Go.Proofs.YtgnahbjpockdmabOwn Go.Proofs.YtgnahbjpockdmabW.PrintWords Go.Proofs.YtgnahbjpockdmabW.PrintLast Go.Proofs.YtgnahbjpockdmabW.PrintMore
open List renaming setIfInBounds_toArray → sI_, set_cons_zero → s0_, set_cons_succ → sS_
attribute [local go_sem] max2_int min2_int max_two min_two max_three min_three max_four min_four   -- for this text's walks alone
set_option linter.unusedVariables false
set_option linter.unusedSimpArgs false

/-! ### cargo_Validate: function 29 -/
mutual
def cargo_Validate.l0 : Nat → List (S49) → List (S49) → Int → Int → Option (Int)
  | 0, _, _, _, _ => none
  | k + 1, x0, x8, x9, x10 => if x10 < x9 then (if 0 ≤ x10 then (if x10 < (x8.length : Int) then ((cargo_sound.f ((rd_T49 x8 x10).f0) ((rd_T49 x8 x10).f1) ((rd_T49 x8 x10).f2) ((rd_T49 x8 x10).f3) ((rd_T49 x8 x10).f4) ((rd_T49 x8 x10).f5)).bind fun t239 => (if t239 = true then (if x10 > 0 then (if 0 ≤ (wrap64 (x10 - 1)) then (if (wrap64 (x10 - 1)) < (x0.length : Int) then ((cargo_compare.f k ((rd_T49 x0 (wrap64 (x10 - 1))).f0) ((rd_T49 x0 (wrap64 (x10 - 1))).f1) ((rd_T49 x0 (wrap64 (x10 - 1))).f2) ((rd_T49 x0 (wrap64 (x10 - 1))).f3) ((rd_T49 x0 (wrap64 (x10 - 1))).f4) ((rd_T49 x0 (wrap64 (x10 - 1))).f5) ((rd_T49 x8 x10).f0) ((rd_T49 x8 x10).f1) ((rd_T49 x8 x10).f2) ((rd_T49 x8 x10).f3) ((rd_T49 x8 x10).f4) ((rd_T49 x8 x10).f5)).bind fun t241 => (cargo_Validate.j1 k x0 x8 x9 x10 (decide (t241 ≥ 0)))) else (none)) else (none)) else (cargo_Validate.j1 k x0 x8 x9 x10 false)) else (cargo_Validate.j1 k x0 x8 x9 x10 true))) else (none)) else (none)) else (some 0)
def cargo_Validate.j1 : Nat → List (S49) → List (S49) → Int → Int → Bool → Option (Int)
  | 0, _, _, _, _, _ => none
  | k + 1, x0, x8, x9, x10, x31 => if x31 = true then (some 1) else (cargo_Validate.l0 k x0 x8 x9 (wrap64 (x10 + 1)))
end
def cargo_Validate.f (k : Nat) (l0 : List (S49)) : Option (Int) := if (l0.length : Int) > 200 then (some 4) else (cargo_Validate.l0 k l0 l0 (l0.length : Int) 0)
theorem cargo_Validate.mono_l : ∀ k, (∀ y0 y1 y2 y3, LeO (cargo_Validate.l0 k y0 y1 y2 y3) (cargo_Validate.l0 (k + 1) y0 y1 y2 y3)) ∧ (∀ y0 y1 y2 y3 y4, LeO (cargo_Validate.j1 k y0 y1 y2 y3 y4) (cargo_Validate.j1 (k + 1) y0 y1 y2 y3 y4))
  | 0 => ⟨fun _ _ _ _ r h => by simp [cargo_Validate.l0] at h, fun _ _ _ _ _ r h => by simp [cargo_Validate.j1] at h⟩
  | k + 1 => by
    obtain ⟨ih0, ih1⟩ := cargo_Validate.mono_l k; refine ⟨?_, ?_⟩
    · intro y0 y1 y2 y3
      unfold cargo_Validate.l0
      repeat' first
      | (with_reducible first | apply ih0 | apply ih1 | apply cargo_compare.mono | exact LeO.refl _ | exact LeO.none _ | refine LeO.ite ?_ ?_ | refine LeO.bind ?_ (fun _ => ?_))
    · intro y0 y1 y2 y3 y4
      unfold cargo_Validate.j1
      repeat' first
      | (with_reducible first | apply ih0 | apply ih1 | apply cargo_compare.mono | exact LeO.refl _ | exact LeO.none _ | refine LeO.ite ?_ ?_ | refine LeO.bind ?_ (fun _ => ?_))
theorem cargo_Validate.mono : ∀ a0 k, LeO (cargo_Validate.f k a0) (cargo_Validate.f (k + 1) a0) := by
  intro a0 k; obtain ⟨ih0, ih1⟩ := cargo_Validate.mono_l k
  unfold cargo_Validate.f
  repeat' first
      | (with_reducible first | apply ih0 | apply ih1 | apply cargo_compare.mono | exact LeO.refl _ | exact LeO.none _ | refine LeO.ite ?_ ?_ | refine LeO.bind ?_ (fun _ => ?_))
def cargo_Validate.T6 : Bool × List (List Nat × List Nat) := (true, [([], []), ([0], [0]), ([1], [1]), ([2, 1], [2]), ([3], [3]), ([4, 3], [3, 4]), ([5, 3, 3], [3, 5]), ([6], [6]), ([6], [6]), ([8, 6], [6, 8]), ([7, 9, 6], [6, 7, 9]), ([10, 6], [6, 10]), ([6], [6]), ([11, 12, 6, 6], [6, 11, 12]), ([13, 6], [6, 13]), ([6, 14, 3], [3, 6, 14]), ([3, 15], [3, 15])])
def cargo_Validate.B6 : List Nat := [0, 1, 3, 7, 15, 31, 63, 127, 127, 383, 1023, 2047, 127, 8191, 16383, 32767, 65535]
theorem cargo_Validate.tab6 : rtab .any (opsOf Try.f29 6) = cargo_Validate.T6 := by kernel_rfl
theorem cargo_Validate.bits6 : waitsOk cargo_Validate.T6.2 cargo_Validate.B6 = true := by kernel_rfl
set_option maxHeartbeats 8000000 in
set_option maxRecDepth 100000 in
theorem cargo_Validate.calls (k : Nat) (A0 : Option Addr) (c0 : Nat) (l0 : List (S49)) (r : Int) (w : World) (hr0 : Kd.C k49 w A0 l0.length l0) (hc0 : l0.length ≤ c0) (h : cargo_Validate.f k l0 = some r) :
    Calls Try.prog 29 #[.slice A0 l0.length c0] w fun e w' => e = .returned (.int .i64 r) ∧ Below w.heap.size w w' := by
 have hu49 := Try.underlying49; have HR0 := Aside0.mk hr0; have HC0 := Aside0.mk hc0; clear hr0 hc0; have HB := Aside0.mk (Below.refl w.heap.size w); have H : (if (l0.length : Int) > 200 then (some 4) else (cargo_Validate.l0 k l0 l0 (l0.length : Int) 0)) = some r := h; clear h
 by_cases c2 : (l0.length : Int) > 200
 ·rw [if_pos c2] at H; have c2b0 : decide (200 < (l0.length : Int)) = true := decide_eq_true c2; have c2b1 : decide (200 < l0.length) = true := decide_eq_true (by omega); clear c2; obtain rfl := Option.some.inj H
  go_enter Try.func29, Try.ntmps29
  go_wp2
  go_ret
  exact ⟨tE_, dL_ HB⟩
 ·rw [if_neg c2] at H; have c2b0 : decide (200 < (l0.length : Int)) = false := decide_eq_false c2; have c2b1 : decide (200 < l0.length) = false := decide_eq_false (by omega); clear c2; have H' := Aside0.mk H; clear H
  go_enter Try.func29, Try.ntmps29
  go_wp2
  go_loopg [10] k (fun kq v10 w' => ∃ (x10_1 : Int), v10 = .int .i64 x10_1 ∧ Aside0 (cargo_Validate.l0 kq l0 l0 (l0.length : Int) x10_1 = some r) ∧ Aside0 (kq ≤ k) ∧ Aside0 (Below w.heap.size w w'))
  case atStart => exact ⟨(0), tS_, H', ⟨Nat.le_refl _⟩, ⟨dL_ HB⟩⟩
  case round =>
   clear H'; (try clear c2); (try clear c2b0); (try clear c2b1); obtain ⟨x10_1, rfl, HA, HK1, HB⟩ := hrel
   cases gk with
   | zero => exact absurd HA.out (by simp [cargo_Validate.l0])
   | succ k1 =>
    have H := HA.out; clear HA; simp only [cargo_Validate.l0] at H
    by_cases c3 : x10_1 < (l0.length : Int)
    ·rw [if_pos c3] at H; have c3b0 : decide (x10_1 < (l0.length : Int)) = true := decide_eq_true c3; clear c3
     by_cases c4 : 0 ≤ x10_1
     ·rw [if_pos c4] at H; have c4b0 : decide (0 ≤ x10_1) = true := decide_eq_true c4; clear c4
      by_cases c5 : x10_1 < (l0.length : Int)
      ·rw [if_pos c5] at H; have c5b0 : decide (x10_1 < (l0.length : Int)) = true := decide_eq_true c5; clear c5; have HC6 := Aside0.mk H; clear H; have p237 : 0 ≤ (x10_1 : Int) := of_decide_eq_true tW_; have q237 : x10_1 < (l0.length : Int) := of_decide_eq_true tW_; obtain ⟨ad237, e237, hx237_0, hx237_1, hx237_2, hx237_3, hx237_4, hx237_5⟩ := at_T49 HR0.out x10_1 p237 q237; cases e237; replace hx237_0 := bc_ HB hx237_0; replace hx237_1 := bc_ HB hx237_1; replace hx237_2 := bc_ HB hx237_2; replace hx237_3 := bc_ HB hx237_3; replace hx237_4 := bc_ HB hx237_4; replace hx237_5 := bc_ HB hx237_5; replace p237 := eq_true p237; replace q237 := eq_true q237
       go_upto_region 6 with (first | ((with_reducible refine gate_dst (N := 4) rfl ?_); refine bx_ (N := 4) (cs := #[.int .i64 0, .int .i64 0, .int .i64 0, .int .i64 0, .int .i64 0, .int .i64 0]) (t := 49) ?_; intro gb238 hg w7 hbox hb; have BK238 := Aside0.mk (hbox); have GW238 := Aside0.mk ((dS_ hg (dL_ HB) : w.heap.size ≤ gb238)); have GE238 := GW238; replace HB := Aside0.mk (below_step (dL_ HB) hb); clear hb hbox hg; obtain ⟨hcz8_0, hcz8_1, hcz8_2, hcz8_3, hcz8_4, hcz8_5, hfz8_0, hfz8_1, hfz8_2, hfz8_3, hfz8_4, hfz8_5⟩ := cs6_ BK238.out))
       (try simp only [Act.put, sI_, s0_, sS_])
       go_cut [31] (fun v31 wc => ∃ (kq : Nat) (x31_5 : Bool), v31 = .bool x31_5 ∧ Aside0 (cargo_Validate.j1 kq l0 l0 (l0.length : Int) x10_1 x31_5 = some r) ∧ Aside0 (kq ≤ k1) ∧ Aside0 (wc.heap[gb238]? = some (.cells #[.int .i64 ((rd_T49 l0 x10_1).f0), .int .i64 ((rd_T49 l0 x10_1).f1), .int .i64 ((rd_T49 l0 x10_1).f2), .int .i64 ((rd_T49 l0 x10_1).f3), .int .i64 ((rd_T49 l0 x10_1).f4), .int .i64 ((rd_T49 l0 x10_1).f5)] 49 (0, 0))) ∧ Aside0 (Below w.heap.size w wc))
       case first =>
        have H := HC6.out; clear HC6; replace H := Option.bind_eq_some_iff.mp H; obtain ⟨t239, A90, H⟩ := H; have A9 := Aside0.mk A90; clear A90
        by_cases c10 : t239 = true
        ·subst c10; rw [if_pos rfl] at H
         by_cases c11 : x10_1 > 0
         ·rw [if_pos c11] at H; have c11b0 : decide (0 < x10_1) = true := decide_eq_true c11; clear c11
          (first | rw [c11b0] | (simp only [i64_w, i32_w]; rw [c11b0]) | skip)
          obtain ⟨ji12, hji12⟩ : ∃ j_ : Int, (wrap64 (x10_1 - 1)) = j_ := ⟨_, rfl⟩; replace H : (if 0 ≤ (ji12) then (if (ji12) < (l0.length : Int) then ((cargo_compare.f k1 ((rd_T49 l0 (ji12)).f0) ((rd_T49 l0 (ji12)).f1) ((rd_T49 l0 (ji12)).f2) ((rd_T49 l0 (ji12)).f3) ((rd_T49 l0 (ji12)).f4) ((rd_T49 l0 (ji12)).f5) ((rd_T49 l0 x10_1).f0) ((rd_T49 l0 x10_1).f1) ((rd_T49 l0 x10_1).f2) ((rd_T49 l0 x10_1).f3) ((rd_T49 l0 x10_1).f4) ((rd_T49 l0 x10_1).f5)).bind fun t241 => (cargo_Validate.j1 k1 l0 l0 (l0.length : Int) x10_1 (decide (t241 ≥ 0)))) else (none)) else (none)) = some r := by first | (rw [hji12] at H; exact H) | (simp only [hji12] at H ⊢; exact H)
          (try rw [hji12] at A9); have hji12w : (IntKind.i64.wrap (x10_1 - 1)) = ji12 := (i64_w _).trans hji12
          by_cases c13 : 0 ≤ (ji12)
          ·rw [if_pos c13] at H; have c13b0 : decide (0 ≤ (ji12)) = true := decide_eq_true c13; clear c13
           by_cases c14 : (ji12) < (l0.length : Int)
           ·rw [if_pos c14] at H; have c14b0 : decide ((ji12) < (l0.length : Int)) = true := decide_eq_true c14; clear c14; replace H := Option.bind_eq_some_iff.mp H; obtain ⟨t241, A150, H⟩ := H; have A15 := Aside0.mk A150; clear A150; have H' := Aside0.mk H; clear H
            try go_wp2
            have n0_ : Aside0 (((((((w7.setCell ⟨gb238, 0, none⟩ (.int .i64 ((rd_T49 l0 x10_1).f0))).setCell ⟨gb238, 1, none⟩ (.int .i64 ((rd_T49 l0 x10_1).f1))).setCell ⟨gb238, 2, none⟩ (.int .i64 ((rd_T49 l0 x10_1).f2))).setCell ⟨gb238, 3, none⟩ (.int .i64 ((rd_T49 l0 x10_1).f3))).setCell ⟨gb238, 4, none⟩ (.int .i64 ((rd_T49 l0 x10_1).f4))).setCell ⟨gb238, 5, none⟩ (.int .i64 ((rd_T49 l0 x10_1).f5))).heap[gb238]? = some (.cells #[.int .i64 ((rd_T49 l0 x10_1).f0), .int .i64 ((rd_T49 l0 x10_1).f1), .int .i64 ((rd_T49 l0 x10_1).f2), .int .i64 ((rd_T49 l0 x10_1).f3), .int .i64 ((rd_T49 l0 x10_1).f4), .int .i64 ((rd_T49 l0 x10_1).f5)] 49 (0, 0))) := ⟨bz_ BK238⟩; have n1_ : Aside0 (Below w.heap.size w ((((((w7.setCell ⟨gb238, 0, none⟩ (.int .i64 ((rd_T49 l0 x10_1).f0))).setCell ⟨gb238, 1, none⟩ (.int .i64 ((rd_T49 l0 x10_1).f1))).setCell ⟨gb238, 2, none⟩ (.int .i64 ((rd_T49 l0 x10_1).f2))).setCell ⟨gb238, 3, none⟩ (.int .i64 ((rd_T49 l0 x10_1).f3))).setCell ⟨gb238, 4, none⟩ (.int .i64 ((rd_T49 l0 x10_1).f4))).setCell ⟨gb238, 5, none⟩ (.int .i64 ((rd_T49 l0 x10_1).f5)))) := ⟨dL1_ HB GE238⟩; (try clear BK238); (try clear HB); generalize ((((((w7.setCell ⟨gb238, 0, none⟩ (.int .i64 ((rd_T49 l0 x10_1).f0))).setCell ⟨gb238, 1, none⟩ (.int .i64 ((rd_T49 l0 x10_1).f1))).setCell ⟨gb238, 2, none⟩ (.int .i64 ((rd_T49 l0 x10_1).f2))).setCell ⟨gb238, 3, none⟩ (.int .i64 ((rd_T49 l0 x10_1).f3))).setCell ⟨gb238, 4, none⟩ (.int .i64 ((rd_T49 l0 x10_1).f4))).setCell ⟨gb238, 5, none⟩ (.int .i64 ((rd_T49 l0 x10_1).f5))) = w16 at n0_ n1_ ⊢; have BK238 := n0_; have HB := n1_; clear n0_ n1_; replace BK238 := Aside0.mk (blk_drew BK238.out); replace HB := Aside0.mk (below_drew1 HB.out); have p240 : 0 ≤ ((ji12) : Int) := of_decide_eq_true tW_; have q240 : (ji12) < (l0.length : Int) := of_decide_eq_true tW_; obtain ⟨ad240, e240, hx240_0, hx240_1, hx240_2, hx240_3, hx240_4, hx240_5⟩ := at_T49 HR0.out (ji12) p240 q240; have hw240_5 := hx240_5; have hw240_4 := hx240_4; have hw240_3 := hx240_3; have hw240_2 := hx240_2; have hw240_1 := hx240_1; have hw240_0 := hx240_0; obtain rfl : ad237 = ad240 := (by injection e240); replace hx240_0 := bc_ HB hx240_0; replace hx240_1 := bc_ HB hx240_1; replace hx240_2 := bc_ HB hx240_2; replace hx240_3 := bc_ HB hx240_3; replace hx240_4 := bc_ HB hx240_4; replace hx240_5 := bc_ HB hx240_5; replace p240 := eq_true p240; replace q240 := eq_true q240; refine start_ (n := 17) (S := fun w' => w'.cell? ⟨gb238, 0, none⟩ = some (.int .i64 ((rd_T49 l0 x10_1).f0)) ∧ w'.cell? ⟨gb238, 1, none⟩ = some (.int .i64 ((rd_T49 l0 x10_1).f1)) ∧ w'.cell? ⟨gb238, 2, none⟩ = some (.int .i64 ((rd_T49 l0 x10_1).f2)) ∧ w'.cell? ⟨gb238, 3, none⟩ = some (.int .i64 ((rd_T49 l0 x10_1).f3)) ∧ w'.cell? ⟨gb238, 4, none⟩ = some (.int .i64 ((rd_T49 l0 x10_1).f4)) ∧ w'.cell? ⟨gb238, 5, none⟩ = some (.int .i64 ((rd_T49 l0 x10_1).f5)) ∧ w'.cell? (ad237.add (((ji12)).toNat * 6)) = some (.int .i64 ((rd_T49 l0 (ji12)).f0)) ∧ w'.cell? ⟨(ad237.add (((ji12)).toNat * 6)).block, (ad237.add (((ji12)).toNat * 6)).off + 1, none⟩ = some (.int .i64 ((rd_T49 l0 (ji12)).f1)) ∧ w'.cell? ⟨(ad237.add (((ji12)).toNat * 6)).block, (ad237.add (((ji12)).toNat * 6)).off + 2, none⟩ = some (.int .i64 ((rd_T49 l0 (ji12)).f2)) ∧ w'.cell? ⟨(ad237.add (((ji12)).toNat * 6)).block, (ad237.add (((ji12)).toNat * 6)).off + 3, none⟩ = some (.int .i64 ((rd_T49 l0 (ji12)).f3)) ∧ w'.cell? ⟨(ad237.add (((ji12)).toNat * 6)).block, (ad237.add (((ji12)).toNat * 6)).off + 4, none⟩ = some (.int .i64 ((rd_T49 l0 (ji12)).f4)) ∧ w'.cell? ⟨(ad237.add (((ji12)).toNat * 6)).block, (ad237.add (((ji12)).toNat * 6)).off + 5, none⟩ = some (.int .i64 ((rd_T49 l0 (ji12)).f5))) (ds := []) ⟨bN 17 0⟩ (by kernel_rfl) rfl rfl ⟨(blk_cell BK238.out 0).trans rfl, (blk_cell BK238.out 1).trans rfl, (blk_cell BK238.out 2).trans rfl, (blk_cell BK238.out 3).trans rfl, (blk_cell BK238.out 4).trans rfl, (blk_cell BK238.out 5).trans rfl, ((HB.out.cell (World.block_lt_of_cell? w _ hw240_0)).trans hw240_0), ((HB.out.cell (World.block_lt_of_cell? w _ hw240_1)).trans hw240_1), ((HB.out.cell (World.block_lt_of_cell? w _ hw240_2)).trans hw240_2), ((HB.out.cell (World.block_lt_of_cell? w _ hw240_3)).trans hw240_3), ((HB.out.cell (World.block_lt_of_cell? w _ hw240_4)).trans hw240_4), ((HB.out.cell (World.block_lt_of_cell? w _ hw240_5)).trans hw240_5)⟩ (fun hHeld => ?_); refine with_tabW cargo_Validate.tab6 cargo_Validate.bits6 (fun HT_ HW_ => ?_)
            generalize w16.drew = w17 at BK238 HB hx240_0 hx240_1 hx240_2 hx240_3 hx240_4 hx240_5 hHeld ⊢; refine tk_ (i := 0) (N := some 15) (bA 1 17) HT_ HW_ hHeld rfl ?_; refine on_ (i := 1) (N := some 16) (bA 2 17) HT_ rfl (fun K hK => ?_); refine goes_ Try.func38 (by kernel_rfl) rfl #[.agg #[.int .i64 ((rd_T49 l0 x10_1).f0), .int .i64 ((rd_T49 l0 x10_1).f1), .int .i64 ((rd_T49 l0 x10_1).f2), .int .i64 ((rd_T49 l0 x10_1).f3), .int .i64 ((rd_T49 l0 x10_1).f4), .int .i64 ((rd_T49 l0 x10_1).f5)]] (by rfl) rfl rfl tA_ ?_
            with_reducible refine (cargo_sound.calls ((rd_T49 l0 x10_1).f0) ((rd_T49 l0 x10_1).f1) ((rd_T49 l0 x10_1).f2) ((rd_T49 l0 x10_1).f3) ((rd_T49 l0 x10_1).f4) ((rd_T49 l0 x10_1).f5) true _ A9.out).mono ?_
            rintro e w18 ⟨rfl, hb⟩; refine ⟨_, rfl, ?_⟩; replace BK238 := bk_ BK238 hb; replace HB := Aside0.mk (below_step (dL1_ HB GE238) hb); (try clear hb); refine hK.out _ _ ⟨(blk_cell BK238.out 0).trans rfl, (blk_cell BK238.out 1).trans rfl, (blk_cell BK238.out 2).trans rfl, (blk_cell BK238.out 3).trans rfl, (blk_cell BK238.out 4).trans rfl, (blk_cell BK238.out 5).trans rfl, ((HB.out.cell (World.block_lt_of_cell? w _ hw240_0)).trans hw240_0), ((HB.out.cell (World.block_lt_of_cell? w _ hw240_1)).trans hw240_1), ((HB.out.cell (World.block_lt_of_cell? w _ hw240_2)).trans hw240_2), ((HB.out.cell (World.block_lt_of_cell? w _ hw240_3)).trans hw240_3), ((HB.out.cell (World.block_lt_of_cell? w _ hw240_4)).trans hw240_4), ((HB.out.cell (World.block_lt_of_cell? w _ hw240_5)).trans hw240_5)⟩ (fun hHeld => ?_); clear hK K; refine norm_ (a' := ?_) ?_ ?_
            rotate_left
            ·show Act.put _ (some 16) _ = _
             simp only [Act.put, sI_, s0_, sS_, i64_w, i32_w]
             rfl
            refine pu_ (i := 2) (N := some 17) (bA 3 17) HT_ rfl ?_; refine pu_ (i := 3) (N := some 18) (bA 4 17) HT_ rfl ?_; refine pu_ (i := 4) (N := some 19) (bA 5 17) HT_ rfl ?_; refine pu_ (i := 5) (N := some 20) (bA 6 17) HT_ rfl ?_; refine pu_ (i := 6) (N := some 21) (bA 7 17) HT_ rfl ?_; refine pu_ (i := 7) (N := some 22) (bA 8 17) HT_ rfl ?_; refine pu_ (i := 8) (N := some 23) (bA 9 17) HT_ rfl ?_; refine pu_ (i := 9) (N := some 24) (bA 10 17) HT_ rfl ?_; refine pu_ (i := 10) (N := some 25) (bA 11 17) HT_ rfl ?_; refine tk_ (i := 11) (N := some 26) (bA 12 17) HT_ HW_ hHeld rfl ?_; refine tk_ (i := 12) (N := some 27) (bA 13 17) HT_ HW_ hHeld rfl ?_; refine on_ (i := 13) (N := some 28) (bA 14 17) HT_ rfl (fun K hK => ?_); refine goes_ Try.func39 (by kernel_rfl) rfl #[.agg #[.int .i64 ((rd_T49 l0 (ji12)).f0), .int .i64 ((rd_T49 l0 (ji12)).f1), .int .i64 ((rd_T49 l0 (ji12)).f2), .int .i64 ((rd_T49 l0 (ji12)).f3), .int .i64 ((rd_T49 l0 (ji12)).f4), .int .i64 ((rd_T49 l0 (ji12)).f5)], .agg #[.int .i64 ((rd_T49 l0 x10_1).f0), .int .i64 ((rd_T49 l0 x10_1).f1), .int .i64 ((rd_T49 l0 x10_1).f2), .int .i64 ((rd_T49 l0 x10_1).f3), .int .i64 ((rd_T49 l0 x10_1).f4), .int .i64 ((rd_T49 l0 x10_1).f5)]] (by rfl) rfl rfl (by (try simp only [List.map_toArray, List.map_cons, List.map_nil]); first | done | (simp only [hji12]; rfl) | rfl | (simp only [List.length_drop, List.length_take]; rfl)) ?_
            with_reducible refine (cargo_compare.calls k1 ((rd_T49 l0 (ji12)).f0) ((rd_T49 l0 (ji12)).f1) ((rd_T49 l0 (ji12)).f2) ((rd_T49 l0 (ji12)).f3) ((rd_T49 l0 (ji12)).f4) ((rd_T49 l0 (ji12)).f5) ((rd_T49 l0 x10_1).f0) ((rd_T49 l0 x10_1).f1) ((rd_T49 l0 x10_1).f2) ((rd_T49 l0 x10_1).f3) ((rd_T49 l0 x10_1).f4) ((rd_T49 l0 x10_1).f5) t241 _ A15.out).mono ?_
            rintro e w19 ⟨rfl, hb⟩; refine ⟨_, rfl, ?_⟩; replace BK238 := bk_ BK238 hb; replace HB := Aside0.mk (below_step (dL1_ HB GE238) hb); (try clear hb); refine hK.out _ _ ⟨(blk_cell BK238.out 0).trans rfl, (blk_cell BK238.out 1).trans rfl, (blk_cell BK238.out 2).trans rfl, (blk_cell BK238.out 3).trans rfl, (blk_cell BK238.out 4).trans rfl, (blk_cell BK238.out 5).trans rfl, ((HB.out.cell (World.block_lt_of_cell? w _ hw240_0)).trans hw240_0), ((HB.out.cell (World.block_lt_of_cell? w _ hw240_1)).trans hw240_1), ((HB.out.cell (World.block_lt_of_cell? w _ hw240_2)).trans hw240_2), ((HB.out.cell (World.block_lt_of_cell? w _ hw240_3)).trans hw240_3), ((HB.out.cell (World.block_lt_of_cell? w _ hw240_4)).trans hw240_4), ((HB.out.cell (World.block_lt_of_cell? w _ hw240_5)).trans hw240_5)⟩ (fun hHeld => ?_); clear hK K; refine norm_ (a' := ?_) ?_ ?_
            rotate_left
            ·show Act.put _ (some 28) _ = _
             simp only [Act.put, sI_, s0_, sS_, i64_w, i32_w]
             rfl
            refine pu_ (i := 14) (N := some 29) (bA 15 17) HT_ rfl ?_; refine pu_ (i := 15) (N := some 30) (bA 16 17) HT_ rfl ?_; refine pu_ (i := 16) (N := some 31) (bA 17 17) HT_ rfl ?_; refine done_ (done_of HT_.out (by kernel_rfl)) ?_
            try go_wp2
            go_meet
            case rel => exact ⟨_, (decide (t241 ≥ 0)), tS_, H', ⟨by have := HK1.out; first | omega | exact Nat.le_refl _⟩, ⟨dB_ BK238⟩, ⟨dL1_ HB GE238⟩⟩
           ·rw [if_neg c14] at H; exact absurd H (by simp)
          ·rw [if_neg c13] at H; exact absurd H (by simp)
         ·rw [if_neg c11] at H; have c11b0 : decide (0 < x10_1) = false := decide_eq_false c11; clear c11
          (first | rw [c11b0] | (simp only [i64_w, i32_w]; rw [c11b0]) | skip)
          have H' := Aside0.mk H; clear H
          try go_wp2
          have n0_ : Aside0 (((((((w7.setCell ⟨gb238, 0, none⟩ (.int .i64 ((rd_T49 l0 x10_1).f0))).setCell ⟨gb238, 1, none⟩ (.int .i64 ((rd_T49 l0 x10_1).f1))).setCell ⟨gb238, 2, none⟩ (.int .i64 ((rd_T49 l0 x10_1).f2))).setCell ⟨gb238, 3, none⟩ (.int .i64 ((rd_T49 l0 x10_1).f3))).setCell ⟨gb238, 4, none⟩ (.int .i64 ((rd_T49 l0 x10_1).f4))).setCell ⟨gb238, 5, none⟩ (.int .i64 ((rd_T49 l0 x10_1).f5))).heap[gb238]? = some (.cells #[.int .i64 ((rd_T49 l0 x10_1).f0), .int .i64 ((rd_T49 l0 x10_1).f1), .int .i64 ((rd_T49 l0 x10_1).f2), .int .i64 ((rd_T49 l0 x10_1).f3), .int .i64 ((rd_T49 l0 x10_1).f4), .int .i64 ((rd_T49 l0 x10_1).f5)] 49 (0, 0))) := ⟨bz_ BK238⟩; have n1_ : Aside0 (Below w.heap.size w ((((((w7.setCell ⟨gb238, 0, none⟩ (.int .i64 ((rd_T49 l0 x10_1).f0))).setCell ⟨gb238, 1, none⟩ (.int .i64 ((rd_T49 l0 x10_1).f1))).setCell ⟨gb238, 2, none⟩ (.int .i64 ((rd_T49 l0 x10_1).f2))).setCell ⟨gb238, 3, none⟩ (.int .i64 ((rd_T49 l0 x10_1).f3))).setCell ⟨gb238, 4, none⟩ (.int .i64 ((rd_T49 l0 x10_1).f4))).setCell ⟨gb238, 5, none⟩ (.int .i64 ((rd_T49 l0 x10_1).f5)))) := ⟨dL1_ HB GE238⟩; generalize ((((((w7.setCell ⟨gb238, 0, none⟩ (.int .i64 ((rd_T49 l0 x10_1).f0))).setCell ⟨gb238, 1, none⟩ (.int .i64 ((rd_T49 l0 x10_1).f1))).setCell ⟨gb238, 2, none⟩ (.int .i64 ((rd_T49 l0 x10_1).f2))).setCell ⟨gb238, 3, none⟩ (.int .i64 ((rd_T49 l0 x10_1).f3))).setCell ⟨gb238, 4, none⟩ (.int .i64 ((rd_T49 l0 x10_1).f4))).setCell ⟨gb238, 5, none⟩ (.int .i64 ((rd_T49 l0 x10_1).f5))) = w20 at n0_ n1_ ⊢; have BK238 := n0_; have HB := n1_; clear n0_ n1_; replace BK238 := Aside0.mk (blk_drew BK238.out); replace HB := Aside0.mk (below_drew1 HB.out); refine start_ (n := 17) (S := fun w' => w'.cell? ⟨gb238, 0, none⟩ = some (.int .i64 ((rd_T49 l0 x10_1).f0)) ∧ w'.cell? ⟨gb238, 1, none⟩ = some (.int .i64 ((rd_T49 l0 x10_1).f1)) ∧ w'.cell? ⟨gb238, 2, none⟩ = some (.int .i64 ((rd_T49 l0 x10_1).f2)) ∧ w'.cell? ⟨gb238, 3, none⟩ = some (.int .i64 ((rd_T49 l0 x10_1).f3)) ∧ w'.cell? ⟨gb238, 4, none⟩ = some (.int .i64 ((rd_T49 l0 x10_1).f4)) ∧ w'.cell? ⟨gb238, 5, none⟩ = some (.int .i64 ((rd_T49 l0 x10_1).f5))) (ds := []) ⟨bN 17 0⟩ (by kernel_rfl) rfl rfl ⟨(blk_cell BK238.out 0).trans rfl, (blk_cell BK238.out 1).trans rfl, (blk_cell BK238.out 2).trans rfl, (blk_cell BK238.out 3).trans rfl, (blk_cell BK238.out 4).trans rfl, (blk_cell BK238.out 5).trans rfl⟩ (fun hHeld => ?_); refine with_tabW cargo_Validate.tab6 cargo_Validate.bits6 (fun HT_ HW_ => ?_)
          generalize w20.drew = w21 at BK238 HB hHeld ⊢; refine tk_ (i := 0) (N := some 15) (bA 1 17) HT_ HW_ hHeld rfl ?_; refine on_ (i := 1) (N := some 16) (bA 2 17) HT_ rfl (fun K hK => ?_); refine goes_ Try.func38 (by kernel_rfl) rfl #[.agg #[.int .i64 ((rd_T49 l0 x10_1).f0), .int .i64 ((rd_T49 l0 x10_1).f1), .int .i64 ((rd_T49 l0 x10_1).f2), .int .i64 ((rd_T49 l0 x10_1).f3), .int .i64 ((rd_T49 l0 x10_1).f4), .int .i64 ((rd_T49 l0 x10_1).f5)]] (by rfl) rfl rfl tA_ ?_
          with_reducible refine (cargo_sound.calls ((rd_T49 l0 x10_1).f0) ((rd_T49 l0 x10_1).f1) ((rd_T49 l0 x10_1).f2) ((rd_T49 l0 x10_1).f3) ((rd_T49 l0 x10_1).f4) ((rd_T49 l0 x10_1).f5) true _ A9.out).mono ?_
          rintro e w22 ⟨rfl, hb⟩; refine ⟨_, rfl, ?_⟩; replace BK238 := bk_ BK238 hb; replace HB := Aside0.mk (below_step (dL1_ HB GE238) hb); (try clear hb); refine hK.out _ _ ⟨(blk_cell BK238.out 0).trans rfl, (blk_cell BK238.out 1).trans rfl, (blk_cell BK238.out 2).trans rfl, (blk_cell BK238.out 3).trans rfl, (blk_cell BK238.out 4).trans rfl, (blk_cell BK238.out 5).trans rfl⟩ (fun hHeld => ?_); clear hK K; refine norm_ (a' := ?_) ?_ ?_
          rotate_left
          ·show Act.put _ (some 16) _ = _
           simp only [Act.put, sI_, s0_, sS_, i64_w, i32_w]
           rfl
          refine pu_ (i := 2) (N := some 17) (bA 3 17) HT_ rfl ?_; refine pu_ (i := 3) (N := some 18) (bA 4 17) HT_ rfl ?_; refine pu_ (i := 4) (N := some 19) (bA 5 17) HT_ rfl ?_; refine pu_ (i := 5) (N := some 20) (bA 6 17) HT_ rfl ?_; refine pu_ (i := 6) (N := some 21) (bA 7 17) HT_ rfl ?_; refine pn_ (i := 7) (N := some 22) (bA 8 17) HT_ rfl ?_; refine pn_ (i := 8) (N := some 23) (bA 9 17) HT_ rfl ?_; refine pn_ (i := 9) (N := some 24) (bA 10 17) HT_ rfl ?_; refine pn_ (i := 10) (N := some 25) (bA 11 17) HT_ rfl ?_; refine pn_ (i := 11) (N := some 26) (bA 12 17) HT_ rfl ?_; refine pn_ (i := 12) (N := some 27) (bA 13 17) HT_ rfl ?_; refine pn_ (i := 13) (N := some 28) (bA 14 17) HT_ rfl ?_; refine pn_ (i := 14) (N := some 29) (bA 15 17) HT_ rfl ?_; refine pu_ (i := 15) (N := some 30) (bA 16 17) HT_ rfl ?_; refine pu_ (i := 16) (N := some 31) (bA 17 17) HT_ rfl ?_; refine done_ (done_of HT_.out (by kernel_rfl)) ?_
          try go_wp2
          go_meet
          case rel => exact ⟨_, (false), tS_, H', ⟨by have := HK1.out; first | omega | exact Nat.le_refl _⟩, ⟨dB_ BK238⟩, ⟨dL1_ HB GE238⟩⟩
        ·replace c10 := Bool.eq_false_iff.mpr c10; subst c10; rw [if_neg (show ¬ (false = true) by decide)] at H; have H' := Aside0.mk H; clear H
         try go_wp2
         have n0_ : Aside0 (((((((w7.setCell ⟨gb238, 0, none⟩ (.int .i64 ((rd_T49 l0 x10_1).f0))).setCell ⟨gb238, 1, none⟩ (.int .i64 ((rd_T49 l0 x10_1).f1))).setCell ⟨gb238, 2, none⟩ (.int .i64 ((rd_T49 l0 x10_1).f2))).setCell ⟨gb238, 3, none⟩ (.int .i64 ((rd_T49 l0 x10_1).f3))).setCell ⟨gb238, 4, none⟩ (.int .i64 ((rd_T49 l0 x10_1).f4))).setCell ⟨gb238, 5, none⟩ (.int .i64 ((rd_T49 l0 x10_1).f5))).heap[gb238]? = some (.cells #[.int .i64 ((rd_T49 l0 x10_1).f0), .int .i64 ((rd_T49 l0 x10_1).f1), .int .i64 ((rd_T49 l0 x10_1).f2), .int .i64 ((rd_T49 l0 x10_1).f3), .int .i64 ((rd_T49 l0 x10_1).f4), .int .i64 ((rd_T49 l0 x10_1).f5)] 49 (0, 0))) := ⟨bz_ BK238⟩; have n1_ : Aside0 (Below w.heap.size w ((((((w7.setCell ⟨gb238, 0, none⟩ (.int .i64 ((rd_T49 l0 x10_1).f0))).setCell ⟨gb238, 1, none⟩ (.int .i64 ((rd_T49 l0 x10_1).f1))).setCell ⟨gb238, 2, none⟩ (.int .i64 ((rd_T49 l0 x10_1).f2))).setCell ⟨gb238, 3, none⟩ (.int .i64 ((rd_T49 l0 x10_1).f3))).setCell ⟨gb238, 4, none⟩ (.int .i64 ((rd_T49 l0 x10_1).f4))).setCell ⟨gb238, 5, none⟩ (.int .i64 ((rd_T49 l0 x10_1).f5)))) := ⟨dL1_ HB GE238⟩; generalize ((((((w7.setCell ⟨gb238, 0, none⟩ (.int .i64 ((rd_T49 l0 x10_1).f0))).setCell ⟨gb238, 1, none⟩ (.int .i64 ((rd_T49 l0 x10_1).f1))).setCell ⟨gb238, 2, none⟩ (.int .i64 ((rd_T49 l0 x10_1).f2))).setCell ⟨gb238, 3, none⟩ (.int .i64 ((rd_T49 l0 x10_1).f3))).setCell ⟨gb238, 4, none⟩ (.int .i64 ((rd_T49 l0 x10_1).f4))).setCell ⟨gb238, 5, none⟩ (.int .i64 ((rd_T49 l0 x10_1).f5))) = w23 at n0_ n1_ ⊢; have BK238 := n0_; have HB := n1_; clear n0_ n1_; replace BK238 := Aside0.mk (blk_drew BK238.out); replace HB := Aside0.mk (below_drew1 HB.out); refine start_ (n := 17) (S := fun w' => w'.cell? ⟨gb238, 0, none⟩ = some (.int .i64 ((rd_T49 l0 x10_1).f0)) ∧ w'.cell? ⟨gb238, 1, none⟩ = some (.int .i64 ((rd_T49 l0 x10_1).f1)) ∧ w'.cell? ⟨gb238, 2, none⟩ = some (.int .i64 ((rd_T49 l0 x10_1).f2)) ∧ w'.cell? ⟨gb238, 3, none⟩ = some (.int .i64 ((rd_T49 l0 x10_1).f3)) ∧ w'.cell? ⟨gb238, 4, none⟩ = some (.int .i64 ((rd_T49 l0 x10_1).f4)) ∧ w'.cell? ⟨gb238, 5, none⟩ = some (.int .i64 ((rd_T49 l0 x10_1).f5))) (ds := []) ⟨bN 17 0⟩ (by kernel_rfl) rfl rfl ⟨(blk_cell BK238.out 0).trans rfl, (blk_cell BK238.out 1).trans rfl, (blk_cell BK238.out 2).trans rfl, (blk_cell BK238.out 3).trans rfl, (blk_cell BK238.out 4).trans rfl, (blk_cell BK238.out 5).trans rfl⟩ (fun hHeld => ?_); refine with_tabW cargo_Validate.tab6 cargo_Validate.bits6 (fun HT_ HW_ => ?_)
         generalize w23.drew = w24 at BK238 HB hHeld ⊢; refine tk_ (i := 0) (N := some 15) (bA 1 17) HT_ HW_ hHeld rfl ?_; refine on_ (i := 1) (N := some 16) (bA 2 17) HT_ rfl (fun K hK => ?_); refine goes_ Try.func38 (by kernel_rfl) rfl #[.agg #[.int .i64 ((rd_T49 l0 x10_1).f0), .int .i64 ((rd_T49 l0 x10_1).f1), .int .i64 ((rd_T49 l0 x10_1).f2), .int .i64 ((rd_T49 l0 x10_1).f3), .int .i64 ((rd_T49 l0 x10_1).f4), .int .i64 ((rd_T49 l0 x10_1).f5)]] (by rfl) rfl rfl tA_ ?_
         with_reducible refine (cargo_sound.calls ((rd_T49 l0 x10_1).f0) ((rd_T49 l0 x10_1).f1) ((rd_T49 l0 x10_1).f2) ((rd_T49 l0 x10_1).f3) ((rd_T49 l0 x10_1).f4) ((rd_T49 l0 x10_1).f5) false _ A9.out).mono ?_
         rintro e w25 ⟨rfl, hb⟩; refine ⟨_, rfl, ?_⟩; replace BK238 := bk_ BK238 hb; replace HB := Aside0.mk (below_step (dL1_ HB GE238) hb); (try clear hb); refine hK.out _ _ ⟨(blk_cell BK238.out 0).trans rfl, (blk_cell BK238.out 1).trans rfl, (blk_cell BK238.out 2).trans rfl, (blk_cell BK238.out 3).trans rfl, (blk_cell BK238.out 4).trans rfl, (blk_cell BK238.out 5).trans rfl⟩ (fun hHeld => ?_); clear hK K; refine norm_ (a' := ?_) ?_ ?_
         rotate_left
         ·show Act.put _ (some 16) _ = _
          simp only [Act.put, sI_, s0_, sS_, i64_w, i32_w]
          rfl
         refine pu_ (i := 2) (N := some 17) (bA 3 17) HT_ rfl ?_; refine pu_ (i := 3) (N := some 18) (bA 4 17) HT_ rfl ?_; refine pn_ (i := 4) (N := some 19) (bA 5 17) HT_ rfl ?_; refine pn_ (i := 5) (N := some 20) (bA 6 17) HT_ rfl ?_; refine pn_ (i := 6) (N := some 21) (bA 7 17) HT_ rfl ?_; refine pn_ (i := 7) (N := some 22) (bA 8 17) HT_ rfl ?_; refine pn_ (i := 8) (N := some 23) (bA 9 17) HT_ rfl ?_; refine pn_ (i := 9) (N := some 24) (bA 10 17) HT_ rfl ?_; refine pn_ (i := 10) (N := some 25) (bA 11 17) HT_ rfl ?_; refine pn_ (i := 11) (N := some 26) (bA 12 17) HT_ rfl ?_; refine pn_ (i := 12) (N := some 27) (bA 13 17) HT_ rfl ?_; refine pn_ (i := 13) (N := some 28) (bA 14 17) HT_ rfl ?_; refine pn_ (i := 14) (N := some 29) (bA 15 17) HT_ rfl ?_; refine pn_ (i := 15) (N := some 30) (bA 16 17) HT_ rfl ?_; refine pu_ (i := 16) (N := some 31) (bA 17 17) HT_ rfl ?_; refine done_ (done_of HT_.out (by kernel_rfl)) ?_
         try go_wp2
         go_meet
         case rel => exact ⟨_, (true), tS_, H', ⟨by have := HK1.out; first | omega | exact Nat.le_refl _⟩, ⟨dB_ BK238⟩, ⟨dL1_ HB GE238⟩⟩
       case rest =>
        clear HC6; (try clear c2); (try clear c2b0); (try clear c2b1); (try clear c3); (try clear c3b0); (try clear c4); (try clear c4b0); (try clear c5); (try clear c5b0); (try clear c11); (try clear c13); (try clear c14); (try clear hcz8_0 hcz8_1 hcz8_2 hcz8_3 hcz8_4 hcz8_5 hfz8_0 hfz8_1 hfz8_2 hfz8_3 hfz8_4 hfz8_5); (try clear hx237_0); (try clear hx237_1); (try clear hx237_2); (try clear hx237_3); (try clear hx237_4); (try clear hx237_5); (try clear p237); (try clear q237); obtain ⟨kq, x31_5, rfl, HA, HJ5, BK238, HB⟩ := hcut
        cases kq with
        | zero => exact absurd HA.out (by simp [cargo_Validate.j1])
        | succ kj5 =>
         have H := HA.out; clear HA; simp only [cargo_Validate.j1] at H
         by_cases c26 : x31_5 = true
         ·subst c26; rw [if_pos rfl] at H; obtain rfl := Option.some.inj H; go_wp2
          go_ret
          exact ⟨tE_, dL1_ HB GE238⟩
         ·replace c26 := Bool.eq_false_iff.mpr c26; subst c26; rw [if_neg (show ¬ (false = true) by decide)] at H; have H' := Aside0.mk H; clear H; go_wp2
          go_roundg kj5
          case measure => have := HK1.out; have := HJ5.out; omega
          case rel => exact ⟨(wrap64 (x10_1 + 1)), tS_, H', ⟨by have := HK1.out; have := HJ5.out; omega⟩, ⟨dL1_ HB GE238⟩⟩
      ·rw [if_neg c5] at H; exact absurd H (by simp)
     ·rw [if_neg c4] at H; exact absurd H (by simp)
    ·rw [if_neg c3] at H; have c3b0 : decide (x10_1 < (l0.length : Int)) = false := decide_eq_false c3; clear c3; obtain rfl := Option.some.inj H; go_wp2
     go_ret
     exact ⟨tE_, dL_ HB⟩

end Go.Proofs.Ytgnahbjpockdmab.Q
namespace Go.Proofs.Ytgnahbjpockdmab.Q
open Go.RowKit Go.Proofs.YtgnahbjpockdmabPrs Go.Proofs.YtgnahbjpockdmabOwn Go.Proofs.YtgnahbjpockdmabW.PrintWords Go.Proofs.YtgnahbjpockdmabW.PrintLast Go.Proofs.YtgnahbjpockdmabW.PrintMore
attribute [local go_sem] max2_int min2_int max_two min_two max_three min_three max_four min_four   -- for this text's walks alone
set_option linter.unusedVariables false
set_option linter.unusedSimpArgs false

/-! ### fleet_Validate: function 11 -/
mutual
def fleet_Validate.j0 : Nat → List (S52) → Bool → List Int → List Int → Int → Int → Int → Int → List (S49) → Option (Int)
  | 0, _, _, _, _, _, _, _, _, _ => none
  | k + 1, x0, x27, x243000, x243001, x243002, x243003, x243004, x243005, x243006 => if x27 = true then (some 1) else (fleet_Validate.l0 k x0 x243000 (x243000.length : Int) 0 x243000 x243001 x243002 x243003 x243004 x243005 x243006)
def fleet_Validate.l0 : Nat → List (S52) → List Int → Int → Int → List Int → List Int → Int → Int → Int → Int → List (S49) → Option (Int)
  | 0, _, _, _, _, _, _, _, _, _, _, _ => none
  | k + 1, x0, x29, x30, x31, x243000, x243001, x243002, x243003, x243004, x243005, x243006 => if x31 < x30 then (if 0 ≤ x31 then (if x31 < (x29.length : Int) then (if 0 ≤ (rd x29 x31) then (if (rd x29 x31) < (x0.length : Int) then (if ((rd_T52 x0 (rd x29 x31)).f7) = 0 then (if x31 < (x243001.length : Int) then (fleet_Validate.j2 k x0 x29 x30 x31 ((rd x243001 x31) != (-1)) x243000 x243001 x243002 x243003 x243004 x243005 x243006) else (none)) else (fleet_Validate.j2 k x0 x29 x30 x31 false x243000 x243001 x243002 x243003 x243004 x243005 x243006)) else (none)) else (none)) else (none)) else (none)) else ((fleet_within.f k 0 100000 (([x243002, x243003] : List Int))).bind fun t251 => (if t251 = true then ((fleet_within.f k 0 1000 (([x243004] : List Int))).bind fun t255 => (if t255 = true then ((fleet_within.f k 0 1000000 (([x243005] : List Int))).bind fun t259 => (if t259 = true then ((cargo_Validate.f k x243006).bind fun t260 => (fleet_Validate.j3 k (t260 != 0))) else (fleet_Validate.j3 k true))) else (fleet_Validate.j3 k true))) else (fleet_Validate.j3 k true)))
def fleet_Validate.j2 : Nat → List (S52) → List Int → Int → Int → Bool → List Int → List Int → Int → Int → Int → Int → List (S49) → Option (Int)
  | 0, _, _, _, _, _, _, _, _, _, _, _, _ => none
  | k + 1, x0, x29, x30, x31, x49, x243000, x243001, x243002, x243003, x243004, x243005, x243006 => if x49 = true then (some 1) else (fleet_Validate.l0 k x0 x29 x30 (wrap64 (x31 + 1)) x243000 x243001 x243002 x243003 x243004 x243005 x243006)
def fleet_Validate.j3 : Nat → Bool → Option (Int)
  | 0, _ => none
  | k + 1, x77 => if x77 = true then (some 1) else (some 0)
end
def fleet_Validate.f (k : Nat) (l0 : List (S52)) (l1_0 : List Int) (l1_1 : List Int) (a1_2 : Int) (a1_3 : Int) (a1_4 : Int) (a1_5 : Int) (l1_6 : List (S49)) : Option (Int) := (fleet_joined.f k l0 l1_0).bind fun t243 => (if t243 = 0 then (if (l1_1.length : Int) = (l1_0.length : Int) then ((fleet_within.f k (-1) 15 l1_1).bind fun t244 => (fleet_Validate.j0 k l0 (!t244) l1_0 l1_1 a1_2 a1_3 a1_4 a1_5 l1_6)) else (fleet_Validate.j0 k l0 true l1_0 l1_1 a1_2 a1_3 a1_4 a1_5 l1_6)) else (some t243))
theorem fleet_Validate.mono_l : ∀ k, (∀ y0 y1 y2 y3 y4 y5 y6 y7 y8, LeO (fleet_Validate.j0 k y0 y1 y2 y3 y4 y5 y6 y7 y8) (fleet_Validate.j0 (k + 1) y0 y1 y2 y3 y4 y5 y6 y7 y8)) ∧ (∀ y0 y1 y2 y3 y4 y5 y6 y7 y8 y9 y10, LeO (fleet_Validate.l0 k y0 y1 y2 y3 y4 y5 y6 y7 y8 y9 y10) (fleet_Validate.l0 (k + 1) y0 y1 y2 y3 y4 y5 y6 y7 y8 y9 y10)) ∧ (∀ y0 y1 y2 y3 y4 y5 y6 y7 y8 y9 y10 y11, LeO (fleet_Validate.j2 k y0 y1 y2 y3 y4 y5 y6 y7 y8 y9 y10 y11) (fleet_Validate.j2 (k + 1) y0 y1 y2 y3 y4 y5 y6 y7 y8 y9 y10 y11)) ∧ (∀ y0, LeO (fleet_Validate.j3 k y0) (fleet_Validate.j3 (k + 1) y0))
  | 0 => ⟨fun _ _ _ _ _ _ _ _ _ r h => by simp [fleet_Validate.j0] at h, fun _ _ _ _ _ _ _ _ _ _ _ r h => by simp [fleet_Validate.l0] at h, fun _ _ _ _ _ _ _ _ _ _ _ _ r h => by simp [fleet_Validate.j2] at h, fun _ r h => by simp [fleet_Validate.j3] at h⟩
  | k + 1 => by
    obtain ⟨ih0, ih1, ih2, ih3⟩ := fleet_Validate.mono_l k; refine ⟨?_, ?_, ?_, ?_⟩
    · intro y0 y1 y2 y3 y4 y5 y6 y7 y8
      unfold fleet_Validate.j0
      repeat' first
      | (with_reducible first | apply ih0 | apply ih1 | apply ih2 | apply ih3 | apply cargo_Validate.mono | apply fleet_joined.mono | apply fleet_within.mono | exact LeO.refl _ | exact LeO.none _ | refine LeO.ite ?_ ?_ | refine LeO.bind ?_ (fun _ => ?_))
    · intro y0 y1 y2 y3 y4 y5 y6 y7 y8 y9 y10
      unfold fleet_Validate.l0
      repeat' first
      | (with_reducible first | apply ih0 | apply ih1 | apply ih2 | apply ih3 | apply cargo_Validate.mono | apply fleet_joined.mono | apply fleet_within.mono | exact LeO.refl _ | exact LeO.none _ | refine LeO.ite ?_ ?_ | refine LeO.bind ?_ (fun _ => ?_))
    · intro y0 y1 y2 y3 y4 y5 y6 y7 y8 y9 y10 y11
      unfold fleet_Validate.j2
      repeat' first
      | (with_reducible first | apply ih0 | apply ih1 | apply ih2 | apply ih3 | apply cargo_Validate.mono | apply fleet_joined.mono | apply fleet_within.mono | exact LeO.refl _ | exact LeO.none _ | refine LeO.ite ?_ ?_ | refine LeO.bind ?_ (fun _ => ?_))
    · intro y0
      unfold fleet_Validate.j3
      repeat' first
      | (with_reducible first | apply ih0 | apply ih1 | apply ih2 | apply ih3 | apply cargo_Validate.mono | apply fleet_joined.mono | apply fleet_within.mono | exact LeO.refl _ | exact LeO.none _ | refine LeO.ite ?_ ?_ | refine LeO.bind ?_ (fun _ => ?_))
theorem fleet_Validate.mono : ∀ a0 a1 a2 a3 a4 a5 a6 a7 k, LeO (fleet_Validate.f k a0 a1 a2 a3 a4 a5 a6 a7) (fleet_Validate.f (k + 1) a0 a1 a2 a3 a4 a5 a6 a7) := by
  intro a0 a1 a2 a3 a4 a5 a6 a7 k; obtain ⟨ih0, ih1, ih2, ih3⟩ := fleet_Validate.mono_l k
  unfold fleet_Validate.f
  repeat' first
      | (with_reducible first | apply ih0 | apply ih1 | apply ih2 | apply ih3 | apply cargo_Validate.mono | apply fleet_joined.mono | apply fleet_within.mono | exact LeO.refl _ | exact LeO.none _ | refine LeO.ite ?_ ?_ | refine LeO.bind ?_ (fun _ => ?_))
set_option maxHeartbeats 8000000 in
set_option maxRecDepth 100000 in
theorem fleet_Validate.calls (k : Nat) (A0 : Option Addr) (c0 : Nat) (l0 : List (S52)) (A1_0 : Option Addr) (c1_0 : Nat) (l1_0 : List Int) (A1_1 : Option Addr) (c1_1 : Nat) (l1_1 : List Int) (a1_2 : Int) (a1_3 : Int) (a1_4 : Int) (a1_5 : Int) (A1_6 : Option Addr) (c1_6 : Nat) (l1_6 : List (S49)) (r : Int) (w : World) (hr0 : Kd.C k52 w A0 l0.length l0) (hc0 : l0.length ≤ c0) (hr1_0 : Kd.C (Kd.int .i64) w A1_0 l1_0.length l1_0) (hc1_0 : l1_0.length ≤ c1_0) (hr1_1 : Kd.C (Kd.int .i64) w A1_1 l1_1.length l1_1) (hc1_1 : l1_1.length ≤ c1_1) (hr1_6 : Kd.C k49 w A1_6 l1_6.length l1_6) (hc1_6 : l1_6.length ≤ c1_6) (h : fleet_Validate.f k l0 l1_0 l1_1 a1_2 a1_3 a1_4 a1_5 l1_6 = some r) :
    Calls Try.prog 11 #[.slice A0 l0.length c0, .agg #[.slice A1_0 l1_0.length c1_0, .slice A1_1 l1_1.length c1_1, .int .i64 a1_2, .int .i64 a1_3, .int .i64 a1_4, .int .i64 a1_5, .slice A1_6 l1_6.length c1_6]] w fun e w' => e = .returned (.int .i64 r) ∧ Below w.heap.size w w' := by
 have hu26 := Try.underlying26; have HR0 := Aside0.mk hr0; have HC0 := Aside0.mk hc0; clear hr0 hc0; have HR1_0 := Aside0.mk hr1_0; have HC1_0 := Aside0.mk hc1_0; clear hr1_0 hc1_0; have HR1_1 := Aside0.mk hr1_1; have HC1_1 := Aside0.mk hc1_1; clear hr1_1 hc1_1; have HR1_6 := Aside0.mk hr1_6; have HC1_6 := Aside0.mk hc1_6; clear hr1_6 hc1_6; have HB := Aside0.mk (Below.refl w.heap.size w); have H : ((fleet_joined.f k l0 l1_0).bind fun t243 => (if t243 = 0 then (if (l1_1.length : Int) = (l1_0.length : Int) then ((fleet_within.f k (-1) 15 l1_1).bind fun t244 => (fleet_Validate.j0 k l0 (!t244) l1_0 l1_1 a1_2 a1_3 a1_4 a1_5 l1_6)) else (fleet_Validate.j0 k l0 true l1_0 l1_1 a1_2 a1_3 a1_4 a1_5 l1_6)) else (some t243))) = some r := h; clear h; replace H := Option.bind_eq_some_iff.mp H; obtain ⟨t243, A30, H⟩ := H; have A3 := Aside0.mk A30; clear A30
 by_cases c4 : t243 = 0
 ·rw [if_pos c4] at H; have c4b0 : (t243 == 0) = true := beq_iff_eq.mpr c4; have c4b1 : (t243 != 0) = false := bne_eq_false_iff_eq.mpr c4; clear c4; have HC5 := Aside0.mk H; clear H
  go_enter Try.func11, Try.ntmps11
  go_upto_region 4 with (first | ((with_reducible refine gate_dst (N := 3) rfl ?_); (try (refine gate_guard (by rfl) ?_; dsimp only)); refine bx_ (N := 3) (cs := #[.slice A1_0 l1_0.length c1_0, .slice A1_1 l1_1.length c1_1, .int .i64 a1_2, .int .i64 a1_3, .int .i64 a1_4, .int .i64 a1_5, .slice A1_6 l1_6.length c1_6]) (t := 26) ?_; intro gb242 hg w6 hbox hb; have BK242 := Aside0.mk (hbox); have GW242 := Aside0.mk ((dS_ hg (dL_ HB) : w.heap.size ≤ gb242)); have GE242 := GW242; replace HB := Aside0.mk (below_step (dL_ HB) hb); clear hb hbox hg; obtain ⟨hcz7_0, hcz7_1, hcz7_2, hcz7_3, hcz7_4, hcz7_5, hcz7_6, hfz7_0, hfz7_1, hfz7_2, hfz7_3, hfz7_4, hfz7_5, hfz7_6⟩ := cs7_ BK242.out) | ((with_reducible refine gate_callee (f := 28) rfl ?_); refine gL_ (some 11) Try.func28 #[.slice A0 l0.length c0, .slice A1_0 l1_0.length c1_0] ?_ rfl; (with_reducible refine (fleet_joined.calls k _ _ l0 _ _ l1_0 t243 _ ?side1 ?side2 ?side3 ?side4 A3.out).mono ?_); (case side1 => exact dC_ HR0 HB); (case side2 => exact HC0.out); (case side3 => exact dC_ HR1_0 HB); (case side4 => exact HC1_0.out); rintro e w8 ⟨rfl, hb⟩; refine ⟨_, rfl, ?_⟩; replace BK242 := bk_ BK242 hb; replace HB := Aside0.mk (below_step (dL1_ HB GE242) hb)))
  (try simp only [Act.put, List.setIfInBounds_toArray, List.set_cons_zero, List.set_cons_succ])
  go_cut [27] (fun v27 wc => ∃ (kq : Nat) (x27_4 : Bool), v27 = .bool x27_4 ∧ Aside0 (fleet_Validate.j0 kq l0 x27_4 l1_0 l1_1 a1_2 a1_3 a1_4 a1_5 l1_6 = some r) ∧ Aside0 (kq ≤ k) ∧ Aside0 (wc.heap[gb242]? = some (.cells #[(.slice A1_0 l1_0.length c1_0), (.slice A1_1 l1_1.length c1_1), .int .i64 a1_2, .int .i64 a1_3, .int .i64 a1_4, .int .i64 a1_5, (.slice A1_6 l1_6.length c1_6)] 26 (0, 0))) ∧ Aside0 (Below w.heap.size w wc))
  case first =>
   have H := HC5.out; clear HC5
   by_cases c9 : (l1_1.length : Int) = (l1_0.length : Int)
   ·rw [if_pos c9] at H; have c9b0 : ((l1_1.length : Int) == (l1_0.length : Int)) = true := beq_iff_eq.mpr c9; have c9b1 : ((l1_1.length : Int) != (l1_0.length : Int)) = false := bne_eq_false_iff_eq.mpr c9; have c9b2 : (l1_1.length == l1_0.length) = true := by first | simpa using c9 | (simp at c9 ⊢; omega)
    clear c9
    (first | rw [c9b0] | (simp only [i64_w, i32_w]; rw [c9b0]) | skip)
    replace H := Option.bind_eq_some_iff.mp H; obtain ⟨t244, A100, H⟩ := H; have A10 := Aside0.mk A100; clear A100; have H' := Aside0.mk H; clear H; obtain ⟨hcz11_0, hcz11_1, hcz11_2, hcz11_3, hcz11_4, hcz11_5, hcz11_6, hfz11_0, hfz11_1, hfz11_2, hfz11_3, hfz11_4, hfz11_5, hfz11_6⟩ := cs7_ BK242.out
    go_wp2_with (first | (go_at_call 18; (with_reducible refine (fleet_within.calls k (-1) 15 _ _ l1_1 t244 _ ?side1 ?side2 A10.out).mono ?_); (case side1 => exact dC_ HR1_1 HB); (case side2 => exact HC1_1.out); rintro e w' ⟨rfl, ⟨nd, rfl⟩⟩))
    go_meet
    case rel => exact ⟨_, (!t244), tS_, H', ⟨by first | omega | exact Nat.le_refl _⟩, ⟨dB_ BK242⟩, ⟨dL1_ HB GE242⟩⟩
   ·rw [if_neg c9] at H; have c9b0 : ((l1_1.length : Int) == (l1_0.length : Int)) = false := beq_eq_false_iff_ne.mpr c9; have c9b1 : ((l1_1.length : Int) != (l1_0.length : Int)) = true := bne_iff_ne.mpr c9; have c9b2 : (l1_1.length == l1_0.length) = false := by first | simpa using c9 | (simp at c9 ⊢; omega)
    (first | rw [c9b0] | (simp only [i64_w, i32_w]; rw [c9b0]) | skip)
    have H' := Aside0.mk H; clear H; obtain ⟨hcz12_0, hcz12_1, hcz12_2, hcz12_3, hcz12_4, hcz12_5, hcz12_6, hfz12_0, hfz12_1, hfz12_2, hfz12_3, hfz12_4, hfz12_5, hfz12_6⟩ := cs7_ BK242.out; go_wp2
    go_meet
    case rel => exact ⟨_, (true), tS_, H', ⟨by first | omega | exact Nat.le_refl _⟩, ⟨dB_ BK242⟩, ⟨dL1_ HB GE242⟩⟩
  case rest =>
   clear HC5; (try clear c4); (try clear c4b0); (try clear c4b1); (try clear c9); (try clear hcz7_0 hcz7_1 hcz7_2 hcz7_3 hcz7_4 hcz7_5 hcz7_6 hfz7_0 hfz7_1 hfz7_2 hfz7_3 hfz7_4 hfz7_5 hfz7_6); obtain ⟨kq, x27_4, rfl, HA, HJ4, BK242, HB⟩ := hcut
   cases kq with
   | zero => exact absurd HA.out (by simp [fleet_Validate.j0])
   | succ kj4 =>
    have H := HA.out; clear HA; simp only [fleet_Validate.j0] at H
    by_cases c13 : x27_4 = true
    ·subst c13; rw [if_pos rfl] at H; obtain rfl := Option.some.inj H; go_wp2
     go_ret
     exact ⟨tE_, dL1_ HB GE242⟩
    ·replace c13 := Bool.eq_false_iff.mpr c13; subst c13; rw [if_neg (show ¬ (false = true) by decide)] at H; have H' := Aside0.mk H; clear H; obtain ⟨hcz14_0, hcz14_1, hcz14_2, hcz14_3, hcz14_4, hcz14_5, hcz14_6, hfz14_0, hfz14_1, hfz14_2, hfz14_3, hfz14_4, hfz14_5, hfz14_6⟩ := cs7_ BK242.out; go_wp2
     go_loopg [31] kj4 (fun kq v31 w' => ∃ (x31_2 : Int), v31 = .int .i64 x31_2 ∧ Aside0 (fleet_Validate.l0 kq l0 l1_0 (l1_0.length : Int) x31_2 l1_0 l1_1 a1_2 a1_3 a1_4 a1_5 l1_6 = some r) ∧ Aside0 (kq ≤ kj4) ∧ Aside0 (w'.heap[gb242]? = some (.cells #[(.slice A1_0 l1_0.length c1_0), (.slice A1_1 l1_1.length c1_1), .int .i64 a1_2, .int .i64 a1_3, .int .i64 a1_4, .int .i64 a1_5, (.slice A1_6 l1_6.length c1_6)] 26 (0, 0))) ∧ Aside0 (Below w.heap.size w w'))
     case atStart => exact ⟨(0), tS_, H', ⟨Nat.le_refl _⟩, ⟨dB_ BK242⟩, ⟨dL1_ HB GE242⟩⟩
     case round =>
      clear H'; (try clear c4); (try clear c4b0); (try clear c4b1); (try clear c9); (try clear c13); (try clear hcz14_0 hcz14_1 hcz14_2 hcz14_3 hcz14_4 hcz14_5 hcz14_6 hfz14_0 hfz14_1 hfz14_2 hfz14_3 hfz14_4 hfz14_5 hfz14_6); (try clear hcz7_0 hcz7_1 hcz7_2 hcz7_3 hcz7_4 hcz7_5 hcz7_6 hfz7_0 hfz7_1 hfz7_2 hfz7_3 hfz7_4 hfz7_5 hfz7_6); obtain ⟨x31_2, rfl, HA, HK2, BK242, HB⟩ := hrel
      cases gk with
      | zero => exact absurd HA.out (by simp [fleet_Validate.l0])
      | succ k2 =>
       have H := HA.out; clear HA; simp only [fleet_Validate.l0] at H
       by_cases c15 : x31_2 < (l1_0.length : Int)
       ·rw [if_pos c15] at H; have c15b0 : decide (x31_2 < (l1_0.length : Int)) = true := decide_eq_true c15; clear c15
        by_cases c16 : 0 ≤ x31_2
        ·rw [if_pos c16] at H; have c16b0 : decide (0 ≤ x31_2) = true := decide_eq_true c16; clear c16
         by_cases c17 : x31_2 < (l1_0.length : Int)
         ·rw [if_pos c17] at H; have c17b0 : decide (x31_2 < (l1_0.length : Int)) = true := decide_eq_true c17; clear c17; have HC18 := Aside0.mk H; clear H; have p245 : 0 ≤ (x31_2 : Int) := of_decide_eq_true tW_; have q245 : x31_2 < (l1_0.length : Int) := of_decide_eq_true tW_; obtain ⟨ad245, e245, hx245_0⟩ := Kd.at_int HR1_0.out x31_2 p245 q245; cases e245; replace hx245_0 := bc_ HB hx245_0; replace p245 := eq_true p245; replace q245 := eq_true q245
          go_upto_region 9 with (fail)
          go_cut [49] (fun v49 wc => ∃ (kq : Nat) (x49_17 : Bool), v49 = .bool x49_17 ∧ Aside0 (fleet_Validate.j2 kq l0 l1_0 (l1_0.length : Int) x31_2 x49_17 l1_0 l1_1 a1_2 a1_3 a1_4 a1_5 l1_6 = some r) ∧ Aside0 (kq ≤ k2) ∧ Aside0 (wc.heap[gb242]? = some (.cells #[(.slice (some ad245) l1_0.length c1_0), (.slice A1_1 l1_1.length c1_1), .int .i64 a1_2, .int .i64 a1_3, .int .i64 a1_4, .int .i64 a1_5, (.slice A1_6 l1_6.length c1_6)] 26 (0, 0))) ∧ Aside0 (Below w.heap.size w wc))
          case first =>
           have H := HC18.out; clear HC18
           by_cases c19 : 0 ≤ (rd l1_0 x31_2)
           ·rw [if_pos c19] at H; have c19b0 : decide (0 ≤ (rd l1_0 x31_2)) = true := decide_eq_true c19; clear c19
            (first | rw [c19b0] | (simp only [i64_w, i32_w]; rw [c19b0]) | skip)
            by_cases c20 : (rd l1_0 x31_2) < (l0.length : Int)
            ·rw [if_pos c20] at H; have c20b0 : decide ((rd l1_0 x31_2) < (l0.length : Int)) = true := decide_eq_true c20; clear c20
             by_cases c21 : ((rd_T52 l0 (rd l1_0 x31_2)).f7) = 0
             ·rw [if_pos c21] at H; have c21b0 : (((rd_T52 l0 (rd l1_0 x31_2)).f7) == 0) = true := beq_iff_eq.mpr c21; have c21b1 : (((rd_T52 l0 (rd l1_0 x31_2)).f7) != 0) = false := bne_eq_false_iff_eq.mpr c21; clear c21
              by_cases c22 : x31_2 < (l1_1.length : Int)
              ·rw [if_pos c22] at H; have c22b0 : decide (x31_2 < (l1_1.length : Int)) = true := decide_eq_true c22; clear c22; have H' := Aside0.mk H; clear H; have p246 : 0 ≤ ((rd l1_0 x31_2) : Int) := of_decide_eq_true tW_; have q246 : (rd l1_0 x31_2) < (l0.length : Int) := of_decide_eq_true tW_; obtain ⟨ad246, e246, hx246_0, hx246_1, hx246_2, hx246_3, hx246_4, hx246_5, hx246_6, hx246_7, hx246_8, hx246_9, hx246_10, hx246_11, hx246_12, hx246_13⟩ := at_T52 HR0.out (rd l1_0 x31_2) p246 q246; cases e246; replace hx246_0 := bc_ HB hx246_0; replace hx246_1 := bc_ HB hx246_1; replace hx246_2 := bc_ HB hx246_2; replace hx246_3 := bc_ HB hx246_3; replace hx246_4 := bc_ HB hx246_4; replace hx246_5 := bc_ HB hx246_5; replace hx246_6 := bc_ HB hx246_6; replace hx246_7 := bc_ HB hx246_7; replace hx246_8 := bc_ HB hx246_8; replace hx246_9 := bc_ HB hx246_9; replace hx246_10 := bc_ HB hx246_10; replace hx246_11 := bc_ HB hx246_11; replace hx246_12 := bc_ HB hx246_12; replace hx246_13 := bc_ HB hx246_13; replace p246 := eq_true p246; replace q246 := eq_true q246; obtain ⟨hcz23_0, hcz23_1, hcz23_2, hcz23_3, hcz23_4, hcz23_5, hcz23_6, hfz23_0, hfz23_1, hfz23_2, hfz23_3, hfz23_4, hfz23_5, hfz23_6⟩ := cs7_ BK242.out; have p247 : 0 ≤ (x31_2 : Int) := of_decide_eq_true tW_; have q247 : x31_2 < (l1_1.length : Int) := of_decide_eq_true tW_; obtain ⟨ad247, e247, hx247_0⟩ := Kd.at_int HR1_1.out x31_2 p247 q247; cases e247; replace hx247_0 := bc_ HB hx247_0; replace p247 := eq_true p247; replace q247 := eq_true q247; go_wp2
               go_meet
               case rel => exact ⟨_, (((rd l1_1 x31_2) != (-1))), tS_, H', ⟨by have := HJ4.out; have := HK2.out; first | omega | exact Nat.le_refl _⟩, ⟨dB_ BK242⟩, ⟨dL1_ HB GE242⟩⟩
              ·rw [if_neg c22] at H; exact absurd H (by simp)
             ·rw [if_neg c21] at H; have c21b0 : (((rd_T52 l0 (rd l1_0 x31_2)).f7) == 0) = false := beq_eq_false_iff_ne.mpr c21; have c21b1 : (((rd_T52 l0 (rd l1_0 x31_2)).f7) != 0) = true := bne_iff_ne.mpr c21; have H' := Aside0.mk H; clear H; have p246 : 0 ≤ ((rd l1_0 x31_2) : Int) := of_decide_eq_true tW_; have q246 : (rd l1_0 x31_2) < (l0.length : Int) := of_decide_eq_true tW_; obtain ⟨ad246, e246, hx246_0, hx246_1, hx246_2, hx246_3, hx246_4, hx246_5, hx246_6, hx246_7, hx246_8, hx246_9, hx246_10, hx246_11, hx246_12, hx246_13⟩ := at_T52 HR0.out (rd l1_0 x31_2) p246 q246; cases e246; replace hx246_0 := bc_ HB hx246_0; replace hx246_1 := bc_ HB hx246_1; replace hx246_2 := bc_ HB hx246_2; replace hx246_3 := bc_ HB hx246_3; replace hx246_4 := bc_ HB hx246_4; replace hx246_5 := bc_ HB hx246_5; replace hx246_6 := bc_ HB hx246_6; replace hx246_7 := bc_ HB hx246_7; replace hx246_8 := bc_ HB hx246_8; replace hx246_9 := bc_ HB hx246_9; replace hx246_10 := bc_ HB hx246_10; replace hx246_11 := bc_ HB hx246_11; replace hx246_12 := bc_ HB hx246_12; replace hx246_13 := bc_ HB hx246_13; replace p246 := eq_true p246; replace q246 := eq_true q246; go_wp2
              go_meet
              case rel => exact ⟨_, (false), tS_, H', ⟨by have := HJ4.out; have := HK2.out; first | omega | exact Nat.le_refl _⟩, ⟨dB_ BK242⟩, ⟨dL1_ HB GE242⟩⟩
            ·rw [if_neg c20] at H; exact absurd H (by simp)
           ·rw [if_neg c19] at H; exact absurd H (by simp)
          case rest =>
           clear HC18; (try clear c4); (try clear c4b0); (try clear c4b1); (try clear c9); (try clear c13); (try clear c15); (try clear c15b0); (try clear c16); (try clear c16b0); (try clear c17); (try clear c17b0); (try clear c19); (try clear c20); (try clear c21); (try clear c22); (try clear hcz14_0 hcz14_1 hcz14_2 hcz14_3 hcz14_4 hcz14_5 hcz14_6 hfz14_0 hfz14_1 hfz14_2 hfz14_3 hfz14_4 hfz14_5 hfz14_6); (try clear hcz7_0 hcz7_1 hcz7_2 hcz7_3 hcz7_4 hcz7_5 hcz7_6 hfz7_0 hfz7_1 hfz7_2 hfz7_3 hfz7_4 hfz7_5 hfz7_6); (try clear hx245_0); (try clear p245); (try clear q245); obtain ⟨kq, x49_17, rfl, HA, HJ17, BK242, HB⟩ := hcut
           cases kq with
           | zero => exact absurd HA.out (by simp [fleet_Validate.j2])
           | succ kj17 =>
            have H := HA.out; clear HA; simp only [fleet_Validate.j2] at H
            by_cases c24 : x49_17 = true
            ·subst c24; rw [if_pos rfl] at H; obtain rfl := Option.some.inj H; go_wp2
             go_ret
             exact ⟨tE_, dL1_ HB GE242⟩
            ·replace c24 := Bool.eq_false_iff.mpr c24; subst c24; rw [if_neg (show ¬ (false = true) by decide)] at H; have H' := Aside0.mk H; clear H; go_wp2
             go_roundg kj17
             case measure => have := HJ4.out; have := HK2.out; have := HJ17.out; omega
             case rel => exact ⟨(wrap64 (x31_2 + 1)), tS_, H', ⟨by have := HJ4.out; have := HK2.out; have := HJ17.out; omega⟩, ⟨dB_ BK242⟩, ⟨dL1_ HB GE242⟩⟩
         ·rw [if_neg c17] at H; exact absurd H (by simp)
        ·rw [if_neg c16] at H; exact absurd H (by simp)
       ·rw [if_neg c15] at H; have c15b0 : decide (x31_2 < (l1_0.length : Int)) = false := decide_eq_false c15; clear c15; have HC25 := Aside0.mk H; clear H
        go_upto_region 12 with (fail)
        go_cut [77] (fun v77 wc => ∃ (kq : Nat) (x77_24 : Bool), v77 = .bool x77_24 ∧ Aside0 (fleet_Validate.j3 kq x77_24 = some r) ∧ Aside0 (kq ≤ k2) ∧ Aside0 (wc.heap[gb242]? = some (.cells #[(.slice A1_0 l1_0.length c1_0), (.slice A1_1 l1_1.length c1_1), .int .i64 a1_2, .int .i64 a1_3, .int .i64 a1_4, .int .i64 a1_5, (.slice A1_6 l1_6.length c1_6)] 26 (0, 0))) ∧ Aside0 (Below w.heap.size w wc))
        case first =>
         have H := HC25.out; clear HC25; obtain ⟨y248, hy248⟩ : ∃ y_ : List Int, y_ = (([a1_2, a1_3] : List Int)) := ⟨_, rfl⟩; replace H : ((fleet_within.f k2 0 100000 y248).bind fun t251 => (if t251 = true then ((fleet_within.f k2 0 1000 (([a1_4] : List Int))).bind fun t255 => (if t255 = true then ((fleet_within.f k2 0 1000000 (([a1_5] : List Int))).bind fun t259 => (if t259 = true then ((cargo_Validate.f k2 l1_6).bind fun t260 => (fleet_Validate.j3 k2 (t260 != 0))) else (fleet_Validate.j3 k2 true))) else (fleet_Validate.j3 k2 true))) else (fleet_Validate.j3 k2 true))) = some r := by first | (rw [hy248]; with_reducible exact H) | (have H2_ := (Option.bind_some _ _).symm.trans H; rw [hy248]; with_reducible exact H2_) | (have H2_ := (Option.bind_some _ _).symm.trans H; with_reducible exact H2_) | with_reducible exact H | (rw [hy248]; exact H) | exact H
         have Ny248 := Aside0.mk hy248; clear hy248; replace H := Option.bind_eq_some_iff.mp H; obtain ⟨t251, A260, H⟩ := H; have A26 := Aside0.mk A260; clear A260
         by_cases c27 : t251 = true
         ·subst c27; rw [if_pos rfl] at H; obtain ⟨y252, hy252⟩ : ∃ y_ : List Int, y_ = (([a1_4] : List Int)) := ⟨_, rfl⟩; replace H : ((fleet_within.f k2 0 1000 y252).bind fun t255 => (if t255 = true then ((fleet_within.f k2 0 1000000 (([a1_5] : List Int))).bind fun t259 => (if t259 = true then ((cargo_Validate.f k2 l1_6).bind fun t260 => (fleet_Validate.j3 k2 (t260 != 0))) else (fleet_Validate.j3 k2 true))) else (fleet_Validate.j3 k2 true))) = some r := by first | (rw [hy252]; with_reducible exact H) | (have H2_ := (Option.bind_some _ _).symm.trans H; rw [hy252]; with_reducible exact H2_) | (have H2_ := (Option.bind_some _ _).symm.trans H; with_reducible exact H2_) | with_reducible exact H | (rw [hy252]; exact H) | exact H
          have Ny252 := Aside0.mk hy252; clear hy252; replace H := Option.bind_eq_some_iff.mp H; obtain ⟨t255, A280, H⟩ := H; have A28 := Aside0.mk A280; clear A280
          by_cases c29 : t255 = true
          ·subst c29; rw [if_pos rfl] at H; obtain ⟨y256, hy256⟩ : ∃ y_ : List Int, y_ = (([a1_5] : List Int)) := ⟨_, rfl⟩; replace H : ((fleet_within.f k2 0 1000000 y256).bind fun t259 => (if t259 = true then ((cargo_Validate.f k2 l1_6).bind fun t260 => (fleet_Validate.j3 k2 (t260 != 0))) else (fleet_Validate.j3 k2 true))) = some r := by first | (rw [hy256]; with_reducible exact H) | (have H2_ := (Option.bind_some _ _).symm.trans H; rw [hy256]; with_reducible exact H2_) | (have H2_ := (Option.bind_some _ _).symm.trans H; with_reducible exact H2_) | with_reducible exact H | (rw [hy256]; exact H) | exact H
           have Ny256 := Aside0.mk hy256; clear hy256; replace H := Option.bind_eq_some_iff.mp H; obtain ⟨t259, A300, H⟩ := H; have A30 := Aside0.mk A300; clear A300
           by_cases c31 : t259 = true
           ·subst c31; rw [if_pos rfl] at H; replace H := Option.bind_eq_some_iff.mp H; obtain ⟨t260, A320, H⟩ := H; have A32 := Aside0.mk A320; clear A320; have H' := Aside0.mk H; clear H; obtain ⟨hcz33_0, hcz33_1, hcz33_2, hcz33_3, hcz33_4, hcz33_5, hcz33_6, hfz33_0, hfz33_1, hfz33_2, hfz33_3, hfz33_4, hfz33_5, hfz33_6⟩ := cs7_ BK242.out
            go_wp2_with (first | ((with_reducible refine gate_dst (N := 55) rfl ?_); (try (refine gate_guard (by rfl) ?_; dsimp only)); refine Kd.R_lit (Kd.int .i64) _ 3 ?hg (N := 55) ?hd (xs := ([a1_2, a1_3] : List Int)) (inner := [.int .i64 a1_2, .int .i64 a1_3]) (ok := fun _ => True) (okp := fun _ => True) ?hr ?hp (fun _ hk => hk) trivial (Below.refl _ _) (Nat.le_refl _) (by simp) ?_; (case hd => rfl); (case hg => rfl); (case hr => first | (go_simp; done) | (go_simp; rfl)); (case hp => exact (Reps.one (show Kd.M (Kd.int .i64) _ _ _ a1_2 [.int .i64 a1_2] from rfl) (Reps.one (show Kd.M (Kd.int .i64) _ _ _ a1_3 [.int .i64 a1_3] from rfl) (Reps.none _ _)))); intro v249 w34 ho35 hb hg_ hnew_; clear hg_ hnew_; (first | rw [← Ny248.out] at ho35 | (simp only [Int.reduceToNat] at ho35; rw [← Ny248.out] at ho35)); have HO250 := Aside0.mk (Kd.R_lower ho35 (below_size (dL1_ HB GE242))); replace BK242 := bk_ BK242 hb; replace HB := Aside0.mk (below_step (dL1_ HB GE242) hb); clear hb ho35; obtain ⟨Ao36, co36, eo36⟩ := Kd.R_slice HO250.out; subst eo36) | ((with_reducible refine gate_callee (f := 18) rfl ?_); refine gL_ (some 56) Try.func18 #[.int .i64 0, .int .i64 100000, .slice Ao36 y248.length co36] ?_ rfl; (with_reducible refine (fleet_within.calls k2 0 100000 _ _ y248 true _ ?side1 ?side2 A26.out).mono ?_); (case side1 => exact rC_ (Kd.R_reads' HO250.out).2.2); (case side2 => exact (Kd.R_reads' HO250.out).2.1); rintro e w' ⟨rfl, ⟨nd, rfl⟩⟩; refine ⟨_, rfl, ?_⟩; obtain ⟨hcz37_0, hcz37_1, hcz37_2, hcz37_3, hcz37_4, hcz37_5, hcz37_6, hfz37_0, hfz37_1, hfz37_2, hfz37_3, hfz37_4, hfz37_5, hfz37_6⟩ := cs7_ BK242.out) | ((with_reducible refine gate_dst (N := 61) rfl ?_); (try (refine gate_guard (by rfl) ?_; dsimp only)); refine li1_ (N := 61) 3 a1_4 ?_; intro v253 w38 ho39 hb; (first | rw [← Ny252.out] at ho39 | (simp only [Int.reduceToNat] at ho39; rw [← Ny252.out] at ho39)); have HO254 := Aside0.mk (Kd.R_lower (Kd.R_new' ho39 (Kd.R_lt (dR_ HO250))) (below_size (dL1_ HB GE242))); replace HO250 := Aside0.mk (Kd.R_elder' (dR_ HO250) (Kd.R_base ho39) hb); replace BK242 := bk_ BK242 hb; replace HB := Aside0.mk (below_step (dL1_ HB GE242) hb); clear hb ho39; obtain ⟨Ao40, co40, eo40⟩ := Kd.R_slice HO254.out; subst eo40) | (go_at_call 18; (with_reducible refine (fleet_within.calls k2 0 1000 _ _ y252 true _ ?side1 ?side2 A28.out).mono ?_); (case side1 => exact rC_ (Kd.R_reads' HO254.out).2.2); (case side2 => exact (Kd.R_reads' HO254.out).2.1); rintro e w' ⟨rfl, ⟨nd, rfl⟩⟩; obtain ⟨hcz41_0, hcz41_1, hcz41_2, hcz41_3, hcz41_4, hcz41_5, hcz41_6, hfz41_0, hfz41_1, hfz41_2, hfz41_3, hfz41_4, hfz41_5, hfz41_6⟩ := cs7_ BK242.out) | ((with_reducible refine gate_dst (N := 68) rfl ?_); (try (refine gate_guard (by rfl) ?_; dsimp only)); refine li1_ (N := 68) 3 a1_5 ?_; intro v257 w42 ho43 hb; (first | rw [← Ny256.out] at ho43 | (simp only [Int.reduceToNat] at ho43; rw [← Ny256.out] at ho43)); have HO258 := Aside0.mk (Kd.R_lower (Kd.R_new' (Kd.R_new' ho43 (Kd.R_lt (dR_ HO250))) (Kd.R_lt (dR_ HO254))) (below_size (dL1_ HB GE242))); replace HO250 := Aside0.mk (Kd.R_elder' (dR_ HO250) (Kd.R_base ho43) hb); replace HO254 := Aside0.mk (Kd.R_elder' (dR_ HO254) (Kd.R_base ho43) hb); replace BK242 := bk_ BK242 hb; replace HB := Aside0.mk (below_step (dL1_ HB GE242) hb); clear hb ho43; obtain ⟨Ao44, co44, eo44⟩ := Kd.R_slice HO258.out; subst eo44) | (go_at_call 18; (with_reducible refine (fleet_within.calls k2 0 1000000 _ _ y256 true _ ?side1 ?side2 A30.out).mono ?_); (case side1 => exact rC_ (Kd.R_reads' HO258.out).2.2); (case side2 => exact (Kd.R_reads' HO258.out).2.1); rintro e w' ⟨rfl, ⟨nd, rfl⟩⟩; obtain ⟨hcz45_0, hcz45_1, hcz45_2, hcz45_3, hcz45_4, hcz45_5, hcz45_6, hfz45_0, hfz45_1, hfz45_2, hfz45_3, hfz45_4, hfz45_5, hfz45_6⟩ := cs7_ BK242.out) | (go_at_call 29; (with_reducible refine (cargo_Validate.calls k2 _ _ l1_6 t260 _ ?side1 ?side2 A32.out).mono ?_); (case side1 => repeat (first | exact (Kd.C_below HR1_6.out (dL1_ HB GE242)) | (with_reducible refine Kd.C_alloc ?_ _) | (with_reducible refine Kd.C_drewN ?_ _) | (with_reducible refine Kd.C_drew ?_))); (case side2 => exact HC1_6.out); rintro e w46 ⟨rfl, hb⟩; replace HO250 := Aside0.mk (Kd.R_below (dR_ HO250) hb); replace HO254 := Aside0.mk (Kd.R_below (dR_ HO254) hb); replace HO258 := Aside0.mk (Kd.R_below (dR_ HO258) hb); replace BK242 := bk_ BK242 hb; replace HB := Aside0.mk (below_step (dL1_ HB GE242) hb)))
            go_meet
            case rel => exact ⟨_, ((t260 != 0)), tS_, H', ⟨by have := HJ4.out; have := HK2.out; first | omega | exact Nat.le_refl _⟩, ⟨dB_ BK242⟩, ⟨dL1_ HB GE242⟩⟩
           ·replace c31 := Bool.eq_false_iff.mpr c31; subst c31; rw [if_neg (show ¬ (false = true) by decide)] at H; have H' := Aside0.mk H; clear H; obtain ⟨hcz47_0, hcz47_1, hcz47_2, hcz47_3, hcz47_4, hcz47_5, hcz47_6, hfz47_0, hfz47_1, hfz47_2, hfz47_3, hfz47_4, hfz47_5, hfz47_6⟩ := cs7_ BK242.out
            go_wp2_with (first | ((with_reducible refine gate_dst (N := 55) rfl ?_); (try (refine gate_guard (by rfl) ?_; dsimp only)); refine Kd.R_lit (Kd.int .i64) _ 3 ?hg (N := 55) ?hd (xs := ([a1_2, a1_3] : List Int)) (inner := [.int .i64 a1_2, .int .i64 a1_3]) (ok := fun _ => True) (okp := fun _ => True) ?hr ?hp (fun _ hk => hk) trivial (Below.refl _ _) (Nat.le_refl _) (by simp) ?_; (case hd => rfl); (case hg => rfl); (case hr => first | (go_simp; done) | (go_simp; rfl)); (case hp => exact (Reps.one (show Kd.M (Kd.int .i64) _ _ _ a1_2 [.int .i64 a1_2] from rfl) (Reps.one (show Kd.M (Kd.int .i64) _ _ _ a1_3 [.int .i64 a1_3] from rfl) (Reps.none _ _)))); intro v249 w48 ho49 hb hg_ hnew_; clear hg_ hnew_; (first | rw [← Ny248.out] at ho49 | (simp only [Int.reduceToNat] at ho49; rw [← Ny248.out] at ho49)); have HO250 := Aside0.mk (Kd.R_lower ho49 (below_size (dL1_ HB GE242))); replace BK242 := bk_ BK242 hb; replace HB := Aside0.mk (below_step (dL1_ HB GE242) hb); clear hb ho49; obtain ⟨Ao50, co50, eo50⟩ := Kd.R_slice HO250.out; subst eo50) | ((with_reducible refine gate_callee (f := 18) rfl ?_); refine gL_ (some 56) Try.func18 #[.int .i64 0, .int .i64 100000, .slice Ao50 y248.length co50] ?_ rfl; (with_reducible refine (fleet_within.calls k2 0 100000 _ _ y248 true _ ?side1 ?side2 A26.out).mono ?_); (case side1 => exact rC_ (Kd.R_reads' HO250.out).2.2); (case side2 => exact (Kd.R_reads' HO250.out).2.1); rintro e w' ⟨rfl, ⟨nd, rfl⟩⟩; refine ⟨_, rfl, ?_⟩; obtain ⟨hcz51_0, hcz51_1, hcz51_2, hcz51_3, hcz51_4, hcz51_5, hcz51_6, hfz51_0, hfz51_1, hfz51_2, hfz51_3, hfz51_4, hfz51_5, hfz51_6⟩ := cs7_ BK242.out) | ((with_reducible refine gate_dst (N := 61) rfl ?_); (try (refine gate_guard (by rfl) ?_; dsimp only)); refine li1_ (N := 61) 3 a1_4 ?_; intro v253 w52 ho53 hb; (first | rw [← Ny252.out] at ho53 | (simp only [Int.reduceToNat] at ho53; rw [← Ny252.out] at ho53)); have HO254 := Aside0.mk (Kd.R_lower (Kd.R_new' ho53 (Kd.R_lt (dR_ HO250))) (below_size (dL1_ HB GE242))); replace HO250 := Aside0.mk (Kd.R_elder' (dR_ HO250) (Kd.R_base ho53) hb); replace BK242 := bk_ BK242 hb; replace HB := Aside0.mk (below_step (dL1_ HB GE242) hb); clear hb ho53; obtain ⟨Ao54, co54, eo54⟩ := Kd.R_slice HO254.out; subst eo54) | (go_at_call 18; (with_reducible refine (fleet_within.calls k2 0 1000 _ _ y252 true _ ?side1 ?side2 A28.out).mono ?_); (case side1 => exact rC_ (Kd.R_reads' HO254.out).2.2); (case side2 => exact (Kd.R_reads' HO254.out).2.1); rintro e w' ⟨rfl, ⟨nd, rfl⟩⟩; obtain ⟨hcz55_0, hcz55_1, hcz55_2, hcz55_3, hcz55_4, hcz55_5, hcz55_6, hfz55_0, hfz55_1, hfz55_2, hfz55_3, hfz55_4, hfz55_5, hfz55_6⟩ := cs7_ BK242.out) | ((with_reducible refine gate_dst (N := 68) rfl ?_); (try (refine gate_guard (by rfl) ?_; dsimp only)); refine li1_ (N := 68) 3 a1_5 ?_; intro v257 w56 ho57 hb; (first | rw [← Ny256.out] at ho57 | (simp only [Int.reduceToNat] at ho57; rw [← Ny256.out] at ho57)); have HO258 := Aside0.mk (Kd.R_lower (Kd.R_new' (Kd.R_new' ho57 (Kd.R_lt (dR_ HO250))) (Kd.R_lt (dR_ HO254))) (below_size (dL1_ HB GE242))); replace HO250 := Aside0.mk (Kd.R_elder' (dR_ HO250) (Kd.R_base ho57) hb); replace HO254 := Aside0.mk (Kd.R_elder' (dR_ HO254) (Kd.R_base ho57) hb); replace BK242 := bk_ BK242 hb; replace HB := Aside0.mk (below_step (dL1_ HB GE242) hb); clear hb ho57; obtain ⟨Ao58, co58, eo58⟩ := Kd.R_slice HO258.out; subst eo58) | (go_at_call 18; (with_reducible refine (fleet_within.calls k2 0 1000000 _ _ y256 false _ ?side1 ?side2 A30.out).mono ?_); (case side1 => exact rC_ (Kd.R_reads' HO258.out).2.2); (case side2 => exact (Kd.R_reads' HO258.out).2.1); rintro e w' ⟨rfl, ⟨nd, rfl⟩⟩))
            go_meet
            case rel => exact ⟨_, (true), tS_, H', ⟨by have := HJ4.out; have := HK2.out; first | omega | exact Nat.le_refl _⟩, ⟨dB_ BK242⟩, ⟨dL1_ HB GE242⟩⟩
          ·replace c29 := Bool.eq_false_iff.mpr c29; subst c29; rw [if_neg (show ¬ (false = true) by decide)] at H; have H' := Aside0.mk H; clear H; obtain ⟨hcz59_0, hcz59_1, hcz59_2, hcz59_3, hcz59_4, hcz59_5, hcz59_6, hfz59_0, hfz59_1, hfz59_2, hfz59_3, hfz59_4, hfz59_5, hfz59_6⟩ := cs7_ BK242.out
           go_wp2_with (first | ((with_reducible refine gate_dst (N := 55) rfl ?_); (try (refine gate_guard (by rfl) ?_; dsimp only)); refine Kd.R_lit (Kd.int .i64) _ 3 ?hg (N := 55) ?hd (xs := ([a1_2, a1_3] : List Int)) (inner := [.int .i64 a1_2, .int .i64 a1_3]) (ok := fun _ => True) (okp := fun _ => True) ?hr ?hp (fun _ hk => hk) trivial (Below.refl _ _) (Nat.le_refl _) (by simp) ?_; (case hd => rfl); (case hg => rfl); (case hr => first | (go_simp; done) | (go_simp; rfl)); (case hp => exact (Reps.one (show Kd.M (Kd.int .i64) _ _ _ a1_2 [.int .i64 a1_2] from rfl) (Reps.one (show Kd.M (Kd.int .i64) _ _ _ a1_3 [.int .i64 a1_3] from rfl) (Reps.none _ _)))); intro v249 w60 ho61 hb hg_ hnew_; clear hg_ hnew_; (first | rw [← Ny248.out] at ho61 | (simp only [Int.reduceToNat] at ho61; rw [← Ny248.out] at ho61)); have HO250 := Aside0.mk (Kd.R_lower ho61 (below_size (dL1_ HB GE242))); replace BK242 := bk_ BK242 hb; replace HB := Aside0.mk (below_step (dL1_ HB GE242) hb); clear hb ho61; obtain ⟨Ao62, co62, eo62⟩ := Kd.R_slice HO250.out; subst eo62) | ((with_reducible refine gate_callee (f := 18) rfl ?_); refine gL_ (some 56) Try.func18 #[.int .i64 0, .int .i64 100000, .slice Ao62 y248.length co62] ?_ rfl; (with_reducible refine (fleet_within.calls k2 0 100000 _ _ y248 true _ ?side1 ?side2 A26.out).mono ?_); (case side1 => exact rC_ (Kd.R_reads' HO250.out).2.2); (case side2 => exact (Kd.R_reads' HO250.out).2.1); rintro e w' ⟨rfl, ⟨nd, rfl⟩⟩; refine ⟨_, rfl, ?_⟩; obtain ⟨hcz63_0, hcz63_1, hcz63_2, hcz63_3, hcz63_4, hcz63_5, hcz63_6, hfz63_0, hfz63_1, hfz63_2, hfz63_3, hfz63_4, hfz63_5, hfz63_6⟩ := cs7_ BK242.out) | ((with_reducible refine gate_dst (N := 61) rfl ?_); (try (refine gate_guard (by rfl) ?_; dsimp only)); refine li1_ (N := 61) 3 a1_4 ?_; intro v253 w64 ho65 hb; (first | rw [← Ny252.out] at ho65 | (simp only [Int.reduceToNat] at ho65; rw [← Ny252.out] at ho65)); have HO254 := Aside0.mk (Kd.R_lower (Kd.R_new' ho65 (Kd.R_lt (dR_ HO250))) (below_size (dL1_ HB GE242))); replace HO250 := Aside0.mk (Kd.R_elder' (dR_ HO250) (Kd.R_base ho65) hb); replace BK242 := bk_ BK242 hb; replace HB := Aside0.mk (below_step (dL1_ HB GE242) hb); clear hb ho65; obtain ⟨Ao66, co66, eo66⟩ := Kd.R_slice HO254.out; subst eo66) | (go_at_call 18; (with_reducible refine (fleet_within.calls k2 0 1000 _ _ y252 false _ ?side1 ?side2 A28.out).mono ?_); (case side1 => exact rC_ (Kd.R_reads' HO254.out).2.2); (case side2 => exact (Kd.R_reads' HO254.out).2.1); rintro e w' ⟨rfl, ⟨nd, rfl⟩⟩))
           go_meet
           case rel => exact ⟨_, (true), tS_, H', ⟨by have := HJ4.out; have := HK2.out; first | omega | exact Nat.le_refl _⟩, ⟨dB_ BK242⟩, ⟨dL1_ HB GE242⟩⟩
         ·replace c27 := Bool.eq_false_iff.mpr c27; subst c27; rw [if_neg (show ¬ (false = true) by decide)] at H; have H' := Aside0.mk H; clear H; obtain ⟨hcz67_0, hcz67_1, hcz67_2, hcz67_3, hcz67_4, hcz67_5, hcz67_6, hfz67_0, hfz67_1, hfz67_2, hfz67_3, hfz67_4, hfz67_5, hfz67_6⟩ := cs7_ BK242.out
          go_wp2_with (first | ((with_reducible refine gate_dst (N := 55) rfl ?_); (try (refine gate_guard (by rfl) ?_; dsimp only)); refine Kd.R_lit (Kd.int .i64) _ 3 ?hg (N := 55) ?hd (xs := ([a1_2, a1_3] : List Int)) (inner := [.int .i64 a1_2, .int .i64 a1_3]) (ok := fun _ => True) (okp := fun _ => True) ?hr ?hp (fun _ hk => hk) trivial (Below.refl _ _) (Nat.le_refl _) (by simp) ?_; (case hd => rfl); (case hg => rfl); (case hr => first | (go_simp; done) | (go_simp; rfl)); (case hp => exact (Reps.one (show Kd.M (Kd.int .i64) _ _ _ a1_2 [.int .i64 a1_2] from rfl) (Reps.one (show Kd.M (Kd.int .i64) _ _ _ a1_3 [.int .i64 a1_3] from rfl) (Reps.none _ _)))); intro v249 w68 ho69 hb hg_ hnew_; clear hg_ hnew_; (first | rw [← Ny248.out] at ho69 | (simp only [Int.reduceToNat] at ho69; rw [← Ny248.out] at ho69)); have HO250 := Aside0.mk (Kd.R_lower ho69 (below_size (dL1_ HB GE242))); replace BK242 := bk_ BK242 hb; replace HB := Aside0.mk (below_step (dL1_ HB GE242) hb); clear hb ho69; obtain ⟨Ao70, co70, eo70⟩ := Kd.R_slice HO250.out; subst eo70) | ((with_reducible refine gate_callee (f := 18) rfl ?_); refine gL_ (some 56) Try.func18 #[.int .i64 0, .int .i64 100000, .slice Ao70 y248.length co70] ?_ rfl; (with_reducible refine (fleet_within.calls k2 0 100000 _ _ y248 false _ ?side1 ?side2 A26.out).mono ?_); (case side1 => exact rC_ (Kd.R_reads' HO250.out).2.2); (case side2 => exact (Kd.R_reads' HO250.out).2.1); rintro e w' ⟨rfl, ⟨nd, rfl⟩⟩; refine ⟨_, rfl, ?_⟩))
          go_meet
          case rel => exact ⟨_, (true), tS_, H', ⟨by have := HJ4.out; have := HK2.out; first | omega | exact Nat.le_refl _⟩, ⟨dB_ BK242⟩, ⟨dL1_ HB GE242⟩⟩
        case rest =>
         clear HC25; (try clear c4); (try clear c4b0); (try clear c4b1); (try clear c9); (try clear c13); (try clear c15); (try clear c15b0); (try clear c16); (try clear c17); (try clear c19); (try clear c20); (try clear c21); (try clear c22); (try clear hcz14_0 hcz14_1 hcz14_2 hcz14_3 hcz14_4 hcz14_5 hcz14_6 hfz14_0 hfz14_1 hfz14_2 hfz14_3 hfz14_4 hfz14_5 hfz14_6); (try clear hcz7_0 hcz7_1 hcz7_2 hcz7_3 hcz7_4 hcz7_5 hcz7_6 hfz7_0 hfz7_1 hfz7_2 hfz7_3 hfz7_4 hfz7_5 hfz7_6); obtain ⟨kq, x77_24, rfl, HA, HJ24, BK242, HB⟩ := hcut
         cases kq with
         | zero => exact absurd HA.out (by simp [fleet_Validate.j3])
         | succ kj24 =>
          have H := HA.out; clear HA; simp only [fleet_Validate.j3] at H
          by_cases c71 : x77_24 = true
          ·subst c71; rw [if_pos rfl] at H; obtain rfl := Option.some.inj H; go_wp2
           go_ret
           exact ⟨tE_, dL1_ HB GE242⟩
          ·replace c71 := Bool.eq_false_iff.mpr c71; subst c71; rw [if_neg (show ¬ (false = true) by decide)] at H; obtain rfl := Option.some.inj H; go_wp2
           go_ret
           exact ⟨tE_, dL1_ HB GE242⟩
 ·rw [if_neg c4] at H; have c4b0 : (t243 == 0) = false := beq_eq_false_iff_ne.mpr c4; have c4b1 : (t243 != 0) = true := bne_iff_ne.mpr c4; obtain rfl := Option.some.inj H
  go_enter Try.func11, Try.ntmps11
  go_wp2_with (first | ((with_reducible refine gate_dst (N := 3) rfl ?_); (try (refine gate_guard (by rfl) ?_; dsimp only)); refine bx_ (N := 3) (cs := #[.slice A1_0 l1_0.length c1_0, .slice A1_1 l1_1.length c1_1, .int .i64 a1_2, .int .i64 a1_3, .int .i64 a1_4, .int .i64 a1_5, .slice A1_6 l1_6.length c1_6]) (t := 26) ?_; intro gb242 hg w72 hbox hb; have BK242 := Aside0.mk (hbox); have GW242 := Aside0.mk ((dS_ hg (dL_ HB) : w.heap.size ≤ gb242)); have GE242 := GW242; replace HB := Aside0.mk (below_step (dL_ HB) hb); clear hb hbox hg; obtain ⟨hcz73_0, hcz73_1, hcz73_2, hcz73_3, hcz73_4, hcz73_5, hcz73_6, hfz73_0, hfz73_1, hfz73_2, hfz73_3, hfz73_4, hfz73_5, hfz73_6⟩ := cs7_ BK242.out) | ((with_reducible refine gate_callee (f := 28) rfl ?_); refine gL_ (some 11) Try.func28 #[.slice A0 l0.length c0, .slice A1_0 l1_0.length c1_0] ?_ rfl; (with_reducible refine (fleet_joined.calls k _ _ l0 _ _ l1_0 t243 _ ?side1 ?side2 ?side3 ?side4 A3.out).mono ?_); (case side1 => exact dC_ HR0 HB); (case side2 => exact HC0.out); (case side3 => exact dC_ HR1_0 HB); (case side4 => exact HC1_0.out); rintro e w74 ⟨rfl, hb⟩; refine ⟨_, rfl, ?_⟩; replace BK242 := bk_ BK242 hb; replace HB := Aside0.mk (below_step (dL1_ HB GE242) hb)))
  go_ret
  exact ⟨tE_, dL1_ HB GE242⟩

end Go.Proofs.Ytgnahbjpockdmab.Q
namespace Go.Proofs.Ytgnahbjpockdmab.Q
open Go.RowKit Go.Proofs.YtgnahbjpockdmabPrs Go.Proofs.YtgnahbjpockdmabOwn Go.Proofs.YtgnahbjpockdmabW.PrintWords Go.Proofs.YtgnahbjpockdmabW.PrintLast Go.Proofs.YtgnahbjpockdmabW.PrintMore
open List renaming setIfInBounds_toArray → sI_, set_cons_zero → s0_, set_cons_succ → sS_
attribute [local go_sem] max2_int min2_int max_two min_two max_three min_three max_four min_four   -- for this text's walks alone
set_option linter.unusedVariables false
set_option linter.unusedSimpArgs false

/-! ### fleet_clone: function 19 -/
def fleet_clone.f (l0_0 : List Int) (l0_1 : List Int) (a0_2 : Int) (a0_3 : Int) (a0_4 : Int) (a0_5 : Int) (l0_6 : List (S49)) : Option (List Int × List Int × Int × Int × Int × Int × (List (S49))) := if ([] : List Int).length + l0_0.length < 17592186044416 then (if ([] : List Int).length + l0_1.length < 17592186044416 then (if ([] : List (S49)).length + l0_6.length < 2932031007402 then (some ((([] : List Int) ++ l0_0), (([] : List Int) ++ l0_1), a0_2, a0_3, a0_4, a0_5, (([] : List (S49)) ++ l0_6))) else (none)) else (none)) else (none)
def fleet_clone.T1 : Bool × List (List Nat × List Nat) := (true, [([], []), ([0], [0]), ([1], [1]), ([], []), ([3], [3]), ([4, 2], [4]), ([], []), ([6], [6]), ([7, 5], [7]), ([0, 1, 2, 3, 4, 6, 7], []), ([9, 2, 8, 0, 1, 2, 3, 4, 6, 7], [2, 9]), ([0, 1, 2, 3, 4, 5, 6, 7, 9, 10], []), ([11, 5, 10, 0, 1, 2, 3, 4, 5, 6, 7, 9, 10], [5, 11]), ([0, 1, 2, 3, 4, 5, 6, 7, 8, 9, 10, 11, 12], []), ([13, 8, 12, 0, 1, 2, 3, 4, 5, 6, 7, 8, 9, 10, 11, 12], [8, 13])])
def fleet_clone.B1 : List Nat := [0, 1, 3, 0, 8, 31, 0, 64, 255, 223, 1023, 2047, 4095, 8191, 16383]
theorem fleet_clone.tab1 : rtab .any (opsOf Try.f19 1) = fleet_clone.T1 := by kernel_rfl
theorem fleet_clone.bits1 : waitsOk fleet_clone.T1.2 fleet_clone.B1 = true := by kernel_rfl
set_option maxHeartbeats 8000000 in
set_option maxRecDepth 100000 in
theorem fleet_clone.calls (A0_0 : Option Addr) (c0_0 : Nat) (l0_0 : List Int) (A0_1 : Option Addr) (c0_1 : Nat) (l0_1 : List Int) (a0_2 : Int) (a0_3 : Int) (a0_4 : Int) (a0_5 : Int) (A0_6 : Option Addr) (c0_6 : Nat) (l0_6 : List (S49)) (r1 : List Int) (r2 : List Int) (r3 : Int) (r4 : Int) (r5 : Int) (r6 : Int) (r7 : List (S49)) (w : World) (hr0_0 : Kd.C (Kd.int .i64) w A0_0 l0_0.length l0_0) (hc0_0 : l0_0.length ≤ c0_0) (hr0_1 : Kd.C (Kd.int .i64) w A0_1 l0_1.length l0_1) (hc0_1 : l0_1.length ≤ c0_1) (hr0_6 : Kd.C k49 w A0_6 l0_6.length l0_6) (hc0_6 : l0_6.length ≤ c0_6) (h : fleet_clone.f l0_0 l0_1 a0_2 a0_3 a0_4 a0_5 l0_6 = some (r1, r2, r3, r4, r5, r6, r7)) :
    Calls Try.prog 19 #[.agg #[.slice A0_0 l0_0.length c0_0, .slice A0_1 l0_1.length c0_1, .int .i64 a0_2, .int .i64 a0_3, .int .i64 a0_4, .int .i64 a0_5, .slice A0_6 l0_6.length c0_6]] w fun e w' => ∃ v0_ v1_ v6_ : Value, e = .returned (.agg #[v0_, v1_, .int .i64 r3, .int .i64 r4, .int .i64 r5, .int .i64 r6, v6_]) ∧ Kd.R (Kd.int .i64) 3 w' w.heap.size (fun k_ => some k_ ≠ (v1_ : Value).ownBlock) v0_ r1 ∧ Kd.R (Kd.int .i64) 3 w' w.heap.size (fun k_ => some k_ ≠ (v0_ : Value).ownBlock) v1_ r2 ∧ Kd.R k49 49 w' w.heap.size (fun _ => True) v6_ r7 ∧ Below w.heap.size w w' := by
 have hu26 := Try.underlying26; have HR0_0 := Aside0.mk hr0_0; have HC0_0 := Aside0.mk hc0_0; clear hr0_0 hc0_0; have HR0_1 := Aside0.mk hr0_1; have HC0_1 := Aside0.mk hc0_1; clear hr0_1 hc0_1; have HR0_6 := Aside0.mk hr0_6; have HC0_6 := Aside0.mk hc0_6; clear hr0_6 hc0_6; have HB := Aside0.mk (Below.refl w.heap.size w); have H : (if ([] : List Int).length + l0_0.length < 17592186044416 then (if ([] : List Int).length + l0_1.length < 17592186044416 then (if ([] : List (S49)).length + l0_6.length < 2932031007402 then (some ((([] : List Int) ++ l0_0), (([] : List Int) ++ l0_1), a0_2, a0_3, a0_4, a0_5, (([] : List (S49)) ++ l0_6))) else (none)) else (none)) else (none)) = some (r1, r2, r3, r4, r5, r6, r7) := h; clear h
 by_cases c2 : ([] : List Int).length + l0_0.length < 17592186044416
 ·rw [if_pos c2] at H; have LMc2 := Aside0.mk c2; clear c2; obtain ⟨y263, hy263⟩ : ∃ y_ : List Int, y_ = (([] : List Int) ++ l0_0) := ⟨_, rfl⟩; replace H : (if ([] : List Int).length + l0_1.length < 17592186044416 then (if ([] : List (S49)).length + l0_6.length < 2932031007402 then (some (y263, (([] : List Int) ++ l0_1), a0_2, a0_3, a0_4, a0_5, (([] : List (S49)) ++ l0_6))) else (none)) else (none)) = some (r1, r2, r3, r4, r5, r6, r7) := by first | (rw [hy263]; with_reducible exact H) | (have H2_ := (Option.bind_some _ _).symm.trans H; rw [hy263]; with_reducible exact H2_) | (have H2_ := (Option.bind_some _ _).symm.trans H; with_reducible exact H2_) | with_reducible exact H | (rw [hy263]; exact H) | exact H
  have Ny263 := Aside0.mk hy263; clear hy263
  by_cases c3 : ([] : List Int).length + l0_1.length < 17592186044416
  ·rw [if_pos c3] at H; have LMc3 := Aside0.mk c3; clear c3; obtain ⟨y266, hy266⟩ : ∃ y_ : List Int, y_ = (([] : List Int) ++ l0_1) := ⟨_, rfl⟩; replace H : (if ([] : List (S49)).length + l0_6.length < 2932031007402 then (some (y263, y266, a0_2, a0_3, a0_4, a0_5, (([] : List (S49)) ++ l0_6))) else (none)) = some (r1, r2, r3, r4, r5, r6, r7) := by first | (rw [hy266]; with_reducible exact H) | (have H2_ := (Option.bind_some _ _).symm.trans H; rw [hy266]; with_reducible exact H2_) | (have H2_ := (Option.bind_some _ _).symm.trans H; with_reducible exact H2_) | with_reducible exact H | (rw [hy266]; exact H) | exact H
   have Ny266 := Aside0.mk hy266; clear hy266
   by_cases c4 : ([] : List (S49)).length + l0_6.length < 2932031007402
   ·rw [if_pos c4] at H; have LMc4 := Aside0.mk c4; clear c4; obtain ⟨y269, hy269⟩ : ∃ y_ : List (S49), y_ = (([] : List (S49)) ++ l0_6) := ⟨_, rfl⟩; replace H : (some (y263, y266, a0_2, a0_3, a0_4, a0_5, y269)) = some (r1, r2, r3, r4, r5, r6, r7) := by first | (rw [hy269]; with_reducible exact H) | (have H2_ := (Option.bind_some _ _).symm.trans H; rw [hy269]; with_reducible exact H2_) | (have H2_ := (Option.bind_some _ _).symm.trans H; with_reducible exact H2_) | with_reducible exact H | (rw [hy269]; exact H) | exact H
    have Ny269 := Aside0.mk hy269; clear hy269; simp only [Option.some.injEq, Prod.mk.injEq] at H; obtain ⟨rfl, rfl, rfl, rfl, rfl, rfl, rfl⟩ := H
    go_enter Try.func19, Try.ntmps19
    try go_wp2_with (first | ((with_reducible refine gate_dst (N := 1) rfl ?_); refine bx_ (N := 1) (cs := #[.slice A0_0 l0_0.length c0_0, .slice A0_1 l0_1.length c0_1, .int .i64 a0_2, .int .i64 a0_3, .int .i64 a0_4, .int .i64 a0_5, .slice A0_6 l0_6.length c0_6]) (t := 26) ?_; intro gb261 hg w5 hbox hb; have BK261 := Aside0.mk (hbox); have GW261 := Aside0.mk ((dS_ hg (dL_ HB) : w.heap.size ≤ gb261)); have GE261 := GW261; replace HB := Aside0.mk (below_step (dL_ HB) hb); clear hb hbox hg) | ((with_reducible refine gate_dst (N := 2) rfl ?_); refine bx_ (N := 2) (cs := #[.slice none 0 0, .slice none 0 0, .int .i64 0, .int .i64 0, .int .i64 0, .int .i64 0, .slice none 0 0]) (t := 26) ?_; intro gb262 hg w6 hbox hb; have BK262 := Aside0.mk (hbox); have GW262 := Aside0.mk ((dS_ hg (dL1_ HB GE261) : w.heap.size ≤ gb262)); have GE262 := GW262; replace HB := Aside0.mk (below_step (dL1_ HB GE261) hb); have NB261_262 := nb_ hg BK261; have NB262_261 := nc_ hg BK261; replace BK261 := bk_ BK261 hb; clear hb hbox hg))
    replace BK261 := Aside0.mk (blk_drew BK261.out); replace BK262 := Aside0.mk (blk_drew BK262.out); replace HB := Aside0.mk (below_drew1 HB.out); refine start_ (n := 15) (S := fun w' => w'.cell? ⟨gb261, 0, none⟩ = some (.slice A0_0 l0_0.length c0_0) ∧ w'.cell? ⟨gb261, 1, none⟩ = some (.slice A0_1 l0_1.length c0_1) ∧ w'.cell? ⟨gb261, 2, none⟩ = some (.int .i64 a0_2) ∧ w'.cell? ⟨gb261, 3, none⟩ = some (.int .i64 a0_3) ∧ w'.cell? ⟨gb261, 4, none⟩ = some (.int .i64 a0_4) ∧ w'.cell? ⟨gb261, 5, none⟩ = some (.int .i64 a0_5) ∧ w'.cell? ⟨gb261, 6, none⟩ = some (.slice A0_6 l0_6.length c0_6)) (ds := [10, 12, 14]) ⟨bN 15 0⟩ (by kernel_rfl) rfl rfl ⟨(blk_cell BK261.out 0).trans rfl, (blk_cell BK261.out 1).trans rfl, (blk_cell BK261.out 2).trans rfl, (blk_cell BK261.out 3).trans rfl, (blk_cell BK261.out 4).trans rfl, (blk_cell BK261.out 5).trans rfl, (blk_cell BK261.out 6).trans rfl⟩ (fun hHeld => ?_); refine with_tabW fleet_clone.tab1 fleet_clone.bits1 (fun HT_ HW_ => ?_)
    generalize w6.drew = w7 at BK261 BK262 HB hHeld ⊢; refine pu_ (i := 0) (N := some 3) (bA 1 15) HT_ rfl ?_; refine pu_ (i := 3) (N := some 6) ⟨bN 15 9⟩ HT_ rfl ?_; refine pu_ (i := 6) (N := some 9) ⟨bN 15 73⟩ HT_ rfl ?_; refine tk_ (i := 1) (N := some 4) ⟨bN 15 75⟩ HT_ HW_ hHeld rfl ?_; refine tk_ (i := 4) (N := some 7) ⟨bN 15 91⟩ HT_ HW_ hHeld rfl ?_; refine tk_ (i := 7) (N := some 10) ⟨bN 15 219⟩ HT_ HW_ hHeld rfl ?_; refine on_ (i := 2) (N := some 5) ⟨bN 15 223⟩ HT_ rfl (fun K hK => ?_); refine Kd.R_append_rows_step (Kd.int .i64) (w0 := w) w.heap.size (by rfl) (.const (.slice none 0 0)) (.tmp 4) 23 3 (.int .i64 0) 8 rfl Try.underlying23 info3 rfl (by decide) (by omega) (.slice none 0 0) ([] : List Int) l0_0 _ _ _ (fun _ => True) (fun _ => False) rfl rfl ?aO ?aR (fun _ _ h => h) (fun _ h => h.elim) ?aF ?aB ?aS ?aL ?_
    (case aR => exact dC_ HR0_0 HB)
    (case aB => exact (dL2_ HB GE261 GE262))
    (case aF => exact (fun _ _ => trivial))
    (case aO => exact ((Kd.R_nil _ _ _ _ (fun _ => True))))
    (case aS => exact (below_size (dL2_ HB GE261 GE262)))
    (case aL => have := LMc2.out; omega)
    intro v264 w8 ho hb hg hat; rw [← Ny263.out] at ho; replace BK261 := Aside0.mk (blk_grown (g := gb261) (o := .cells #[.slice A0_0 l0_0.length c0_0, .slice A0_1 l0_1.length c0_1, .int .i64 a0_2, .int .i64 a0_3, .int .i64 a0_4, .int .i64 a0_5, .slice A0_6 l0_6.length c0_6] 26 (0, 0)) (dB_ BK261) hg (by simp [Value.ownBlock])); replace BK262 := Aside0.mk (blk_grown (g := gb262) (o := .cells #[.slice none 0 0, .slice none 0 0, .int .i64 0, .int .i64 0, .int .i64 0, .int .i64 0, .slice none 0 0] 26 (0, 0)) (dB_ BK262) hg (by simp [Value.ownBlock])); replace HB := Aside0.mk (hb); have HO265 := Aside0.mk (ho); clear ho hb hg hat; refine hK.out _ _ ⟨(blk_cell BK261.out 0).trans rfl, (blk_cell BK261.out 1).trans rfl, (blk_cell BK261.out 2).trans rfl, (blk_cell BK261.out 3).trans rfl, (blk_cell BK261.out 4).trans rfl, (blk_cell BK261.out 5).trans rfl, (blk_cell BK261.out 6).trans rfl⟩ (fun hHeld => ?_); clear hK K; refine norm_ (a' := ?_) ?_ ?_
    rotate_left
    ·show Act.put _ (some 5) _ = _
     simp only [Act.put, sI_, s0_, sS_, i64_w, i32_w]
     rfl
    refine pu_ (i := 9) (N := some 12) ⟨bN 15 735⟩ HT_ rfl ?_; refine on_ (i := 5) (N := some 8) ⟨bN 15 767⟩ HT_ rfl (fun K hK => ?_); refine Kd.R_append_rows_step (Kd.int .i64) (w0 := w) w.heap.size (by rfl) (.const (.slice none 0 0)) (.tmp 7) 23 3 (.int .i64 0) 8 rfl Try.underlying23 info3 rfl (by decide) (by omega) (.slice none 0 0) ([] : List Int) l0_1 _ _ _ (fun k_ => some k_ ≠ (v264 : Value).ownBlock) (fun _ => False) rfl rfl ?aO ?aR (fun _ _ h => h) (fun _ h => h.elim) ?aF ?aB ?aS ?aL ?_
    (case aR => exact dC_ HR0_1 HB)
    (case aB => exact (dL2_ HB GE261 GE262))
    (case aF => exact (fun k_ hk => Kd.fresh' (Kd.R_lt (dR_ HO265)) k_ hk))
    (case aO => exact ((Kd.R_nil _ _ _ _ (fun k_ => some k_ ≠ (v264 : Value).ownBlock))))
    (case aS => exact (below_size (dL2_ HB GE261 GE262)))
    (case aL => have := LMc3.out; omega)
    intro v267 w9 ho hb hg hat; rw [← Ny266.out] at ho; replace BK261 := Aside0.mk (blk_grown (g := gb261) (o := .cells #[.slice A0_0 l0_0.length c0_0, .slice A0_1 l0_1.length c0_1, .int .i64 a0_2, .int .i64 a0_3, .int .i64 a0_4, .int .i64 a0_5, .slice A0_6 l0_6.length c0_6] 26 (0, 0)) (dB_ BK261) hg (by simp [Value.ownBlock])); replace BK262 := Aside0.mk (blk_grown (g := gb262) (o := .cells #[.slice none 0 0, .slice none 0 0, .int .i64 0, .int .i64 0, .int .i64 0, .int .i64 0, .slice none 0 0] 26 (0, 0)) (dB_ BK262) hg (by simp [Value.ownBlock])); replace HO265 := Aside0.mk (Kd.R_after (Kd.R_apart_nil (dR_ HO265)) hg hat); replace HB := Aside0.mk (hb); have HO268 := Aside0.mk (ho); clear ho hb hg hat; refine hK.out _ _ ⟨(blk_cell BK261.out 0).trans rfl, (blk_cell BK261.out 1).trans rfl, (blk_cell BK261.out 2).trans rfl, (blk_cell BK261.out 3).trans rfl, (blk_cell BK261.out 4).trans rfl, (blk_cell BK261.out 5).trans rfl, (blk_cell BK261.out 6).trans rfl⟩ (fun hHeld => ?_); clear hK K; refine norm_ (a' := ?_) ?_ ?_
    rotate_left
    ·show Act.put _ (some 8) _ = _
     simp only [Act.put, sI_, s0_, sS_, i64_w, i32_w]
     rfl
    refine on_ (i := 8) (N := some 11) (bA 10 15) HT_ rfl (fun K hK => ?_); refine Kd.R_append_rows_step k49 (w0 := w) w.heap.size (by rfl) (.const (.slice none 0 0)) (.tmp 10) 24 49 (.agg #[(.int .i64 0), (.int .i64 0), (.int .i64 0), (.int .i64 0), (.int .i64 0), (.int .i64 0)]) 48 rfl Try.underlying24 info49 rfl (by decide) (by omega) (.slice none 0 0) ([] : List (S49)) l0_6 _ _ _ (fun _ => True) (fun _ => False) rfl rfl ?aO ?aR (fun _ _ h => h) (fun _ h => h.elim) ?aF ?aB ?aS ?aL ?_
    (case aR => exact dC_ HR0_6 HB)
    (case aB => exact (dL2_ HB GE261 GE262))
    (case aF => exact (fun _ _ => trivial))
    (case aO => exact ((Kd.R_nil _ _ _ _ (fun _ => True))))
    (case aS => exact (below_size (dL2_ HB GE261 GE262)))
    (case aL => have := LMc4.out; omega)
    intro v270 w10 ho hb hg hat; rw [← Ny269.out] at ho; replace BK261 := Aside0.mk (blk_grown (g := gb261) (o := .cells #[.slice A0_0 l0_0.length c0_0, .slice A0_1 l0_1.length c0_1, .int .i64 a0_2, .int .i64 a0_3, .int .i64 a0_4, .int .i64 a0_5, .slice A0_6 l0_6.length c0_6] 26 (0, 0)) (dB_ BK261) hg (by simp [Value.ownBlock])); replace BK262 := Aside0.mk (blk_grown (g := gb262) (o := .cells #[.slice none 0 0, .slice none 0 0, .int .i64 0, .int .i64 0, .int .i64 0, .int .i64 0, .slice none 0 0] 26 (0, 0)) (dB_ BK262) hg (by simp [Value.ownBlock])); replace HO265 := Aside0.mk (Kd.R_grown (dR_ HO265) hg (fun _ _ => by simp [Value.ownBlock])); replace HO268 := Aside0.mk (Kd.R_grown (dR_ HO268) hg (fun _ _ => by simp [Value.ownBlock])); replace HB := Aside0.mk (hb); have HO271 := Aside0.mk (ho); clear ho hb hg hat; obtain ⟨Ao11, co11, eo11⟩ := Kd.R_slice HO265.out
    (first | subst eo11 | (injection eo11 with f1_ f2_ f3_; have f4_ := f1_.symm; have f5_ := f3_.symm; clear f1_ f2_ f3_; subst f4_; subst f5_))
    obtain ⟨Ao13, co13, eo13⟩ := Kd.R_slice HO268.out
    (first | subst eo13 | (injection eo13 with f1_ f2_ f3_; have f4_ := f1_.symm; have f5_ := f3_.symm; clear f1_ f2_ f3_; subst f4_; subst f5_))
    obtain ⟨Ao15, co15, eo15⟩ := Kd.R_slice HO271.out
    (first | subst eo15 | (injection eo15 with f1_ f2_ f3_; have f4_ := f1_.symm; have f5_ := f3_.symm; clear f1_ f2_ f3_; subst f4_; subst f5_))
    refine hK.out _ _ ⟨(blk_cell BK261.out 0).trans rfl, (blk_cell BK261.out 1).trans rfl, (blk_cell BK261.out 2).trans rfl, (blk_cell BK261.out 3).trans rfl, (blk_cell BK261.out 4).trans rfl, (blk_cell BK261.out 5).trans rfl, (blk_cell BK261.out 6).trans rfl⟩ (fun hHeld => ?_); clear hK K; refine norm_ (a' := ?_) ?_ ?_
    rotate_left
    ·show Act.put _ (some 11) _ = _
     simp only [Act.put, sI_, s0_, sS_, i64_w, i32_w]
     rfl
    refine last_ (i := 10) (N := none) ⟨bN 15 2047⟩ rfl rfl (one_of HT_.out (by kernel_rfl)) (by decide) (fun K hK => ?_); have hs12 : w10.cell? ⟨gb261, 0, none⟩ = some (.slice A0_0 l0_0.length c0_0) := (blk_cell BK261.out 0).trans rfl; have hfs12 := blk_frozen BK261.out 0; have hns12_1 := NB262_261.out; have hms12_1 := NB261_262.out; refine skip_ (w1 := ?_) (by rfl) rfl ?_ ?_
    rotate_left
    ·go_simp
     rfl
    refine hK.out _ _ ?_; clear hK K; refine pu_ (i := 11) (N := some 13) (bA 12 15) HT_ rfl ?_; refine last_ (i := 12) (N := none) ⟨bN 15 8191⟩ rfl rfl (one_of HT_.out (by kernel_rfl)) (by decide) (fun K hK => ?_); have hs14 : w10.cell? ⟨gb261, 1, none⟩ = some (.slice A0_1 l0_1.length c0_1) := (blk_cell BK261.out 1).trans rfl; have hfs14 := blk_frozen BK261.out 1; have hns14_1 := NB262_261.out; have hms14_1 := NB261_262.out; refine skip_ (w1 := ?_) (by rfl) rfl ?_ ?_
    rotate_left
    ·go_simp
     rfl
    refine hK.out _ _ ?_; clear hK K; refine pu_ (i := 13) (N := some 14) (bA 14 15) HT_ rfl ?_; refine last_ (i := 14) (N := none) ⟨bN 15 32767⟩ rfl rfl (one_of HT_.out (by kernel_rfl)) (by decide) (fun K hK => ?_); have hs16 : w10.cell? ⟨gb261, 6, none⟩ = some (.slice A0_6 l0_6.length c0_6) := (blk_cell BK261.out 6).trans rfl; have hfs16 := blk_frozen BK261.out 6; have hns16_1 := NB262_261.out; have hms16_1 := NB261_262.out; refine skip_ (w1 := ?_) (by rfl) rfl ?_ ?_
    rotate_left
    ·go_simp
     rfl
    refine hK.out _ _ ?_; clear hK K; refine done_ (done_of HT_.out (by kernel_rfl)) ?_; have hnb17 := NB261_262.out; have hnc17 := NB262_261.out; obtain ⟨hcz18_0, hcz18_1, hcz18_2, hcz18_3, hcz18_4, hcz18_5, hcz18_6, hfz18_0, hfz18_1, hfz18_2, hfz18_3, hfz18_4, hfz18_5, hfz18_6⟩ := cs7_ BK261.out; obtain ⟨hcz19_0, hcz19_1, hcz19_2, hcz19_3, hcz19_4, hcz19_5, hcz19_6, hfz19_0, hfz19_1, hfz19_2, hfz19_3, hfz19_4, hfz19_5, hfz19_6⟩ := cs7_ BK262.out
    try go_wp2
    refine bodyPost_ret (results_cell_row rfl _ _ gb262 26 #[.slice Ao11 y263.length co11, .slice Ao13 y266.length co13, .int .i64 a0_2, .int .i64 a0_3, .int .i64 a0_4, .int .i64 a0_5, .slice Ao15 y269.length co15] (0, 0) _ rfl (bz_ BK262) Try.underlying26 rfl (by kernel_rfl)) rfl ?_; exact ⟨_, _, _, tE_, by (with_reducible repeat (first | apply Kd.R_alloc | apply Kd.R_drewN | apply Kd.R_drew)); exact Kd.R_mono (fz2_ HO265 BK261 BK262) (fun _ hk => hk.1.1.2), by (with_reducible repeat (first | apply Kd.R_alloc | apply Kd.R_drewN | apply Kd.R_drew)); exact Kd.R_mono (fz2_ HO268 BK261 BK262) (fun _ hk => hk.1.1), by (with_reducible repeat (first | apply Kd.R_alloc | apply Kd.R_drewN | apply Kd.R_drew)); exact Kd.R_mono (fz2_ HO271 BK261 BK262) (fun _ hk => trivial), dL2_ HB GE261 GE262⟩
   ·rw [if_neg c4] at H; exact absurd H (by simp)
  ·rw [if_neg c3] at H; exact absurd H (by simp)
 ·rw [if_neg c2] at H; exact absurd H (by simp)

end Go.Proofs.Ytgnahbjpockdmab.Q
namespace Go.Proofs.Ytgnahbjpockdmab.Q
open Go.RowKit Go.Proofs.YtgnahbjpockdmabPrs Go.Proofs.YtgnahbjpockdmabOwn Go.Proofs.YtgnahbjpockdmabW.PrintWords Go.Proofs.YtgnahbjpockdmabW.PrintLast Go.Proofs.YtgnahbjpockdmabW.PrintMore
attribute [local go_sem] max2_int min2_int max_two min_two max_three min_three max_four min_four   -- for this text's walks alone
set_option linter.unusedVariables false
set_option linter.unusedSimpArgs false

/-! ### hinterlandref14_within: function 35 -/
def hinterlandref14_within.f (a0 : Int) (a1 : Int) (a2 : Int) : Option (Bool) := if a0 ≥ a1 then (some (decide (a0 ≤ a2))) else (some false)
set_option maxHeartbeats 8000000 in
set_option maxRecDepth 100000 in
theorem hinterlandref14_within.calls (a0 : Int) (a1 : Int) (a2 : Int) (r : Bool) (w : World) (h : hinterlandref14_within.f a0 a1 a2 = some r) :
    Calls Try.prog 35 #[.int .i64 a0, .int .i64 a1, .int .i64 a2] w fun e w' => e = .returned (.bool r) ∧ Drawn0 w w' := by
 have H : (if a0 ≥ a1 then (some (decide (a0 ≤ a2))) else (some false)) = some r := h; clear h
 by_cases c4 : a0 ≥ a1
 ·rw [if_pos c4] at H; have c4b0 : decide (a1 ≤ a0) = true := decide_eq_true c4; clear c4; obtain rfl := Option.some.inj H
  go_enter Try.func35, Try.ntmps35
  go_wp2
  go_ret
  exact ⟨tS_, by repeat (first | exact Drawn0.refl _ | apply Drawn0.step)⟩
 ·rw [if_neg c4] at H; have c4b0 : decide (a1 ≤ a0) = false := decide_eq_false c4; clear c4; obtain rfl := Option.some.inj H
  go_enter Try.func35, Try.ntmps35
  go_wp2
  go_ret
  exact ⟨tS_, by repeat (first | exact Drawn0.refl _ | apply Drawn0.step)⟩

end Go.Proofs.Ytgnahbjpockdmab.Q
