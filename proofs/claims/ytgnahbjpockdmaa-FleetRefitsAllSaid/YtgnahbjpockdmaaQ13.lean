-- PRINTED by print.py out of the translation. Not trusted: Lean checks it.
import Derived.Test.YtgnahbjpockdmaaPrs
import Derived.Test.YtgnahbjpockdmaaQ0
import Derived.Test.YtgnahbjpockdmaaQ11
import Derived.Test.YtgnahbjpockdmaaQ12
namespace Go.Proofs.Ytgnahbjpockdmaa.Q
open Go.RowKit Go.Proofs.YtgnahbjpockdmaaPrs Go.Proofs.YtgnahbjpockdmaaOwn Go.Proofs.YtgnahbjpockdmaaW.PrintWords Go.Proofs.YtgnahbjpockdmaaW.PrintLast Go.Proofs.YtgnahbjpockdmaaW.PrintMore
attribute [local go_sem] max2_int min2_int max_two min_two max_three min_three max_four min_four   -- for this text's walks alone
set_option linter.unusedVariables false
set_option linter.unusedSimpArgs false

/-! ### hinterlandlaw14_known: function 16 -/
def hinterlandlaw14_known.f (k : Nat)  : Option (Bool) := (fleet_Speed.f k 600 2000 80 200 0 0 0 false 0 0 600 0).bind fun bt200 => ((fleet_Facts.f k (([(⟨(⟨#[97]⟩ : ByteArray), 0, 0, 5, 3, 0, 0, 0, 8, 0, 0, 1, 0, false⟩ : S54)] : List (S54))) (([0] : List Int))).bind fun bt208 => (if bt200.2 = 0 then (if bt200.1 = 8 then (if bt208.2.2.2.2.2.2.2.2 = 0 then (if bt208.1 = 600 then (if bt208.2.2.1 = 3 then (some (bt208.2.2.2.2.1 == 8)) else (some false)) else (some false)) else (some false)) else (some false)) else (some false)))
theorem hinterlandlaw14_known.mono : ∀ k, LeO (hinterlandlaw14_known.f k ) (hinterlandlaw14_known.f (k + 1) ) := by
  intro  k
  unfold hinterlandlaw14_known.f
  repeat' first
      | (with_reducible exact fleet_Facts.mono _ _ _)
      | (with_reducible exact fleet_Speed.mono _ _ _ _ _ _ _ _ _ _ _ _ _)
      | (with_reducible exact LeO.refl _)
      | (with_reducible exact LeO.none _)
      | (with_reducible refine LeO.ite ?_ ?_)
      | (with_reducible refine LeO.bind ?_ (fun _ => ?_))
      | exact fleet_Facts.mono _ _ _
      | exact fleet_Speed.mono _ _ _ _ _ _ _ _ _ _ _ _ _
      | exact LeO.none _
      | refine LeO.ite ?_ ?_
      | refine LeO.bind ?_ (fun _ => ?_)
set_option maxHeartbeats 8000000 in
set_option maxRecDepth 100000 in
theorem hinterlandlaw14_known.calls (k : Nat)  (r : Bool) (w : World) (h : hinterlandlaw14_known.f k  = some r) :
    Calls Try.prog 16 #[] w fun e w' => e = .returned (.bool r) ∧ Below w.heap.size w w' := by
 have hu33 := Try.underlying33
 have hu54 := Try.underlying54
 have HB := Aside0.mk (Below.refl w.heap.size w)
 have H : ((fleet_Speed.f k 600 2000 80 200 0 0 0 false 0 0 600 0).bind fun bt200 => ((fleet_Facts.f k (([(⟨(⟨#[97]⟩ : ByteArray), 0, 0, 5, 3, 0, 0, 0, 8, 0, 0, 1, 0, false⟩ : S54)] : List (S54))) (([0] : List Int))).bind fun bt208 => (if bt200.2 = 0 then (if bt200.1 = 8 then (if bt208.2.2.2.2.2.2.2.2 = 0 then (if bt208.1 = 600 then (if bt208.2.2.1 = 3 then (some (bt208.2.2.2.2.1 == 8)) else (some false)) else (some false)) else (some false)) else (some false)) else (some false)))) = some r := h
 clear h
 replace H := Option.bind_eq_some_iff.mp H
 obtain ⟨⟨t200, t201⟩, A10, H⟩ := H
 replace H : ((fleet_Facts.f k (([(⟨(⟨#[97]⟩ : ByteArray), 0, 0, 5, 3, 0, 0, 0, 8, 0, 0, 1, 0, false⟩ : S54)] : List (S54))) (([0] : List Int))).bind fun bt208 => (if t201 = 0 then (if t200 = 8 then (if bt208.2.2.2.2.2.2.2.2 = 0 then (if bt208.1 = 600 then (if bt208.2.2.1 = 3 then (some (bt208.2.2.2.2.1 == 8)) else (some false)) else (some false)) else (some false)) else (some false)) else (some false))) = some r := H
 have A1 := Aside0.mk A10
 clear A10
 obtain ⟨y202, hy202⟩ : ∃ y_ : List (S54), y_ = (([(⟨(⟨#[97]⟩ : ByteArray), 0, 0, 5, 3, 0, 0, 0, 8, 0, 0, 1, 0, false⟩ : S54)] : List (S54))) := ⟨_, rfl⟩
 replace H : ((fleet_Facts.f k y202 (([0] : List Int))).bind fun bt208 => (if t201 = 0 then (if t200 = 8 then (if bt208.2.2.2.2.2.2.2.2 = 0 then (if bt208.1 = 600 then (if bt208.2.2.1 = 3 then (some (bt208.2.2.2.2.1 == 8)) else (some false)) else (some false)) else (some false)) else (some false)) else (some false))) = some r := by first | (rw [hy202]; with_reducible exact H) | (have H2_ := (Option.bind_some _ _).symm.trans H; rw [hy202]; with_reducible exact H2_) | (have H2_ := (Option.bind_some _ _).symm.trans H; with_reducible exact H2_) | with_reducible exact H | (rw [hy202]; exact H) | exact H
 have Ny202 := Aside0.mk hy202
 clear hy202
 obtain ⟨y205, hy205⟩ : ∃ y_ : List Int, y_ = (([0] : List Int)) := ⟨_, rfl⟩
 replace H : ((fleet_Facts.f k y202 y205).bind fun bt208 => (if t201 = 0 then (if t200 = 8 then (if bt208.2.2.2.2.2.2.2.2 = 0 then (if bt208.1 = 600 then (if bt208.2.2.1 = 3 then (some (bt208.2.2.2.2.1 == 8)) else (some false)) else (some false)) else (some false)) else (some false)) else (some false))) = some r := by first | (rw [hy205]; with_reducible exact H) | (have H2_ := (Option.bind_some _ _).symm.trans H; rw [hy205]; with_reducible exact H2_) | (have H2_ := (Option.bind_some _ _).symm.trans H; with_reducible exact H2_) | with_reducible exact H | (rw [hy205]; exact H) | exact H
 have Ny205 := Aside0.mk hy205
 clear hy205
 replace H := Option.bind_eq_some_iff.mp H
 obtain ⟨⟨t208, t209, t210, t211, t212, t213, t214, t215, t216⟩, A20, H⟩ := H
 replace H : (if t201 = 0 then (if t200 = 8 then (if t216 = 0 then (if t208 = 600 then (if t210 = 3 then (some (t212 == 8)) else (some false)) else (some false)) else (some false)) else (some false)) else (some false)) = some r := H
 have A2 := Aside0.mk A20
 clear A20
 by_cases c3 : t201 = 0
 ·rw [if_pos c3] at H
  have c3b0 : (t201 == 0) = true := beq_iff_eq.mpr c3
  have c3b1 : (t201 != 0) = false := bne_eq_false_iff_eq.mpr c3
  clear c3
  by_cases c4 : t200 = 8
  ·rw [if_pos c4] at H
   have c4b0 : (t200 == 8) = true := beq_iff_eq.mpr c4
   have c4b1 : (t200 != 8) = false := bne_eq_false_iff_eq.mpr c4
   clear c4
   by_cases c5 : t216 = 0
   ·rw [if_pos c5] at H
    have c5b0 : (t216 == 0) = true := beq_iff_eq.mpr c5
    have c5b1 : (t216 != 0) = false := bne_eq_false_iff_eq.mpr c5
    clear c5
    by_cases c6 : t208 = 600
    ·rw [if_pos c6] at H
     have c6b0 : (t208 == 600) = true := beq_iff_eq.mpr c6
     have c6b1 : (t208 != 600) = false := bne_eq_false_iff_eq.mpr c6
     clear c6
     by_cases c7 : t210 = 3
     ·rw [if_pos c7] at H
      have c7b0 : (t210 == 3) = true := beq_iff_eq.mpr c7
      have c7b1 : (t210 != 3) = false := bne_eq_false_iff_eq.mpr c7
      clear c7
      obtain rfl := Option.some.inj H
      go_enter Try.func16, Try.ntmps16
      go_wp2_with (first | ((with_reducible refine gate_callee (f := 21) rfl ?_); refine goesL_ (some 7) rfl rfl Try.func21 (by kernel_rfl) rfl #[.agg #[.int .i64 600, .int .i64 2000, .int .i64 80, .int .i64 200, .int .i64 0, .int .i64 0, .int .i64 0, .bool false], .int .i64 0, .int .i64 0, .int .i64 600, .int .i64 0] rfl tA_ ?_; (with_reducible refine (fleet_Speed.calls k 600 2000 80 200 0 0 0 false 0 0 600 0 t200 t201 _ A1.out).mono ?_); rintro e w8 ⟨rfl, hb⟩; refine ⟨_, rfl, ?_⟩; have n0_ := Aside0.mk (below_step (dL_ HB) hb); clear HB; have HB := n0_; clear n0_; (try clear hb); (try clear hb2); (try clear hk); (try clear hi)) | ((with_reducible refine gate_dst (N := 12) rfl ?_); refine Kd.R_lit k54 _ 54 ?hg (N := 12) ?hd (xs := ([(⟨(⟨#[97]⟩ : ByteArray), 0, 0, 5, 3, 0, 0, 0, 8, 0, 0, 1, 0, false⟩ : S54)] : List (S54))) (inner := [.string (⟨#[97]⟩ : ByteArray), .int .i64 0, .int .i64 0, .int .i64 5, .int .i64 3, .int .i64 0, .int .i64 0, .int .i64 0, .int .i64 8, .int .i64 0, .int .i64 0, .int .i64 1, .int .i64 0, .bool false]) (ok := fun _ => True) (okp := fun _ => True) ?hr ?hp (fun _ hk => hk) trivial (Below.refl _ _) (Nat.le_refl _) (by simp) ?_; (case hd => rfl); (case hg => rfl); (case hr => first | (go_simp; done) | (go_simp; rfl)); (case hp => exact (Reps.front (show Kd.M k54 _ _ _ (⟨(⟨#[97]⟩ : ByteArray), 0, 0, 5, 3, 0, 0, 0, 8, 0, 0, 1, 0, false⟩ : S54) [.string (⟨#[97]⟩ : ByteArray), .int .i64 0, .int .i64 0, .int .i64 5, .int .i64 3, .int .i64 0, .int .i64 0, .int .i64 0, .int .i64 8, .int .i64 0, .int .i64 0, .int .i64 1, .int .i64 0, .bool false] from (k54_mkM _ _ _ (⟨(⟨#[97]⟩ : ByteArray), 0, 0, 5, 3, 0, 0, 0, 8, 0, 0, 1, 0, false⟩ : S54) )) rfl (Reps.none _ _) rfl)); intro v203 w9 ho10 hb hg_ hnew_; clear hg_ hnew_; (first | rw [← Ny202.out] at ho10 | (simp only [Int.reduceToNat] at ho10; rw [← Ny202.out] at ho10)); have n0_ := Aside0.mk (Kd.R_lower ho10 (below_size (dL_ HB))); have n1_ := Aside0.mk (below_step (dL_ HB) hb); clear HB; have HO204 := n0_; have HB := n1_; clear n0_ n1_; clear hb ho10) | ((with_reducible refine gate_dst (N := 13) rfl ?_); refine Kd.R_lit (Kd.int .i64) _ 3 ?hg (N := 13) ?hd (xs := ([0] : List Int)) (inner := [.int .i64 0]) (ok := fun _ => True) (okp := fun _ => True) ?hr ?hp (fun _ hk => hk) trivial (Below.refl _ _) (Nat.le_refl _) (by simp) ?_; (case hd => rfl); (case hg => rfl); (case hr => first | (go_simp; done) | (go_simp; rfl)); (case hp => exact (Reps.one (show Kd.M (Kd.int .i64) _ _ _ 0 [.int .i64 0] from rfl) (Reps.none _ _))); intro v206 w11 ho12 hb hg_ hnew_; clear hg_ hnew_; (first | rw [← Ny205.out] at ho12 | (simp only [Int.reduceToNat] at ho12; rw [← Ny205.out] at ho12)); have n0_ := Aside0.mk (Kd.R_below (dR_ HO204) hb); have n1_ := Aside0.mk (Kd.R_lower ho12 (below_size (dL_ HB))); have n2_ := Aside0.mk (below_step (dL_ HB) hb); clear HO204; clear HB; have HO204 := n0_; have HO207 := n1_; have HB := n2_; clear n0_ n1_ n2_; clear hb ho12; obtain ⟨Ao13, co13, eo13⟩ := Kd.R_slice HO204.out; subst eo13; obtain ⟨Ao14, co14, eo14⟩ := Kd.R_slice HO207.out; subst eo14) | ((with_reducible refine gate_callee (f := 19) rfl ?_); refine goesL_ (some 14) rfl rfl Try.func19 (by kernel_rfl) rfl #[.slice Ao13 y202.length co13, .slice Ao14 y205.length co14] rfl tA_ ?_; (with_reducible refine (fleet_Facts.calls k _ _ y202 _ _ y205 t208 t209 t210 t211 t212 t213 t214 t215 t216 _ ?side1 ?side2 ?side3 ?side4 A2.out).mono ?_); (case side1 => repeat (first | exact (Kd.R_reads' HO204.out).2.2 | (with_reducible refine Kd.C_alloc ?_ _) | (with_reducible refine Kd.C_drewN ?_ _) | (with_reducible refine Kd.C_drew ?_))); (case side2 => exact (Kd.R_reads' HO204.out).2.1); (case side3 => repeat (first | exact (Kd.R_reads' HO207.out).2.2 | (with_reducible refine Kd.C_alloc ?_ _) | (with_reducible refine Kd.C_drewN ?_ _) | (with_reducible refine Kd.C_drew ?_))); (case side4 => exact (Kd.R_reads' HO207.out).2.1); rintro e w15 ⟨rfl, hb⟩; refine ⟨_, rfl, ?_⟩; have n0_ := Aside0.mk (Kd.R_below (dR_ HO204) hb); have n1_ := Aside0.mk (Kd.R_below (dR_ HO207) hb); have n2_ := Aside0.mk (below_step (dL_ HB) hb); clear HO204; clear HO207; clear HB; have HO204 := n0_; have HO207 := n1_; have HB := n2_; clear n0_ n1_ n2_; (try clear hb); (try clear hb2); (try clear hk); (try clear hi)) | ((with_reducible refine gate_dst (N := 3) rfl ?_); refine box_event ?hg (N := 3) ?hd (cs := #[.int .i64 0, .int .i64 0, .int .i64 0, .int .i64 0, .int .i64 0, .int .i64 0, .int .i64 0, .bool false]) (t := 33) ?hr ?_; (case hd => rfl); (case hg => rfl); (case hr => first | (go_simp; done) | (go_simp; rfl)); intro gb217 hg w16 hbox hb; have n0_ := Aside0.mk (Kd.R_below (dR_ HO204) hb); have n1_ := Aside0.mk (Kd.R_below (dR_ HO207) hb); have n2_ := Aside0.mk (below_step (dL_ HB) hb); have n3_ := Aside0.mk (hbox); have n4_ := Aside0.mk ((dS_ hg (dL_ HB) : w.heap.size ≤ gb217)); have n5_ := Aside0.mk ((dS_ hg (dL_ HB) : w.heap.size ≤ gb217)); clear HO204; clear HO207; clear HB; have HO204 := n0_; have HO207 := n1_; have HB := n2_; have BK217 := n3_; have GW217 := n4_; have GE217 := n5_; clear n0_ n1_ n2_ n3_ n4_ n5_; clear hb hbox hg; obtain ⟨hcz17_0, hcz17_1, hcz17_2, hcz17_3, hcz17_4, hcz17_5, hcz17_6, hcz17_7, hfz17_0, hfz17_1, hfz17_2, hfz17_3, hfz17_4, hfz17_5, hfz17_6, hfz17_7⟩ := cs8_ BK217.out))
      go_ret
      exact ⟨tE_, dL1_ HB GE217⟩
     ·rw [if_neg c7] at H
      have c7b0 : (t210 == 3) = false := beq_eq_false_iff_ne.mpr c7
      have c7b1 : (t210 != 3) = true := bne_iff_ne.mpr c7
      obtain rfl := Option.some.inj H
      go_enter Try.func16, Try.ntmps16
      go_wp2_with (first | ((with_reducible refine gate_callee (f := 21) rfl ?_); refine goesL_ (some 7) rfl rfl Try.func21 (by kernel_rfl) rfl #[.agg #[.int .i64 600, .int .i64 2000, .int .i64 80, .int .i64 200, .int .i64 0, .int .i64 0, .int .i64 0, .bool false], .int .i64 0, .int .i64 0, .int .i64 600, .int .i64 0] rfl tA_ ?_; (with_reducible refine (fleet_Speed.calls k 600 2000 80 200 0 0 0 false 0 0 600 0 t200 t201 _ A1.out).mono ?_); rintro e w18 ⟨rfl, hb⟩; refine ⟨_, rfl, ?_⟩; have n0_ := Aside0.mk (below_step (dL_ HB) hb); clear HB; have HB := n0_; clear n0_; (try clear hb); (try clear hb2); (try clear hk); (try clear hi)) | ((with_reducible refine gate_dst (N := 12) rfl ?_); refine Kd.R_lit k54 _ 54 ?hg (N := 12) ?hd (xs := ([(⟨(⟨#[97]⟩ : ByteArray), 0, 0, 5, 3, 0, 0, 0, 8, 0, 0, 1, 0, false⟩ : S54)] : List (S54))) (inner := [.string (⟨#[97]⟩ : ByteArray), .int .i64 0, .int .i64 0, .int .i64 5, .int .i64 3, .int .i64 0, .int .i64 0, .int .i64 0, .int .i64 8, .int .i64 0, .int .i64 0, .int .i64 1, .int .i64 0, .bool false]) (ok := fun _ => True) (okp := fun _ => True) ?hr ?hp (fun _ hk => hk) trivial (Below.refl _ _) (Nat.le_refl _) (by simp) ?_; (case hd => rfl); (case hg => rfl); (case hr => first | (go_simp; done) | (go_simp; rfl)); (case hp => exact (Reps.front (show Kd.M k54 _ _ _ (⟨(⟨#[97]⟩ : ByteArray), 0, 0, 5, 3, 0, 0, 0, 8, 0, 0, 1, 0, false⟩ : S54) [.string (⟨#[97]⟩ : ByteArray), .int .i64 0, .int .i64 0, .int .i64 5, .int .i64 3, .int .i64 0, .int .i64 0, .int .i64 0, .int .i64 8, .int .i64 0, .int .i64 0, .int .i64 1, .int .i64 0, .bool false] from (k54_mkM _ _ _ (⟨(⟨#[97]⟩ : ByteArray), 0, 0, 5, 3, 0, 0, 0, 8, 0, 0, 1, 0, false⟩ : S54) )) rfl (Reps.none _ _) rfl)); intro v203 w19 ho20 hb hg_ hnew_; clear hg_ hnew_; (first | rw [← Ny202.out] at ho20 | (simp only [Int.reduceToNat] at ho20; rw [← Ny202.out] at ho20)); have n0_ := Aside0.mk (Kd.R_lower ho20 (below_size (dL_ HB))); have n1_ := Aside0.mk (below_step (dL_ HB) hb); clear HB; have HO204 := n0_; have HB := n1_; clear n0_ n1_; clear hb ho20) | ((with_reducible refine gate_dst (N := 13) rfl ?_); refine Kd.R_lit (Kd.int .i64) _ 3 ?hg (N := 13) ?hd (xs := ([0] : List Int)) (inner := [.int .i64 0]) (ok := fun _ => True) (okp := fun _ => True) ?hr ?hp (fun _ hk => hk) trivial (Below.refl _ _) (Nat.le_refl _) (by simp) ?_; (case hd => rfl); (case hg => rfl); (case hr => first | (go_simp; done) | (go_simp; rfl)); (case hp => exact (Reps.one (show Kd.M (Kd.int .i64) _ _ _ 0 [.int .i64 0] from rfl) (Reps.none _ _))); intro v206 w21 ho22 hb hg_ hnew_; clear hg_ hnew_; (first | rw [← Ny205.out] at ho22 | (simp only [Int.reduceToNat] at ho22; rw [← Ny205.out] at ho22)); have n0_ := Aside0.mk (Kd.R_below (dR_ HO204) hb); have n1_ := Aside0.mk (Kd.R_lower ho22 (below_size (dL_ HB))); have n2_ := Aside0.mk (below_step (dL_ HB) hb); clear HO204; clear HB; have HO204 := n0_; have HO207 := n1_; have HB := n2_; clear n0_ n1_ n2_; clear hb ho22; obtain ⟨Ao23, co23, eo23⟩ := Kd.R_slice HO204.out; subst eo23; obtain ⟨Ao24, co24, eo24⟩ := Kd.R_slice HO207.out; subst eo24) | ((with_reducible refine gate_callee (f := 19) rfl ?_); refine goesL_ (some 14) rfl rfl Try.func19 (by kernel_rfl) rfl #[.slice Ao23 y202.length co23, .slice Ao24 y205.length co24] rfl tA_ ?_; (with_reducible refine (fleet_Facts.calls k _ _ y202 _ _ y205 t208 t209 t210 t211 t212 t213 t214 t215 t216 _ ?side1 ?side2 ?side3 ?side4 A2.out).mono ?_); (case side1 => repeat (first | exact (Kd.R_reads' HO204.out).2.2 | (with_reducible refine Kd.C_alloc ?_ _) | (with_reducible refine Kd.C_drewN ?_ _) | (with_reducible refine Kd.C_drew ?_))); (case side2 => exact (Kd.R_reads' HO204.out).2.1); (case side3 => repeat (first | exact (Kd.R_reads' HO207.out).2.2 | (with_reducible refine Kd.C_alloc ?_ _) | (with_reducible refine Kd.C_drewN ?_ _) | (with_reducible refine Kd.C_drew ?_))); (case side4 => exact (Kd.R_reads' HO207.out).2.1); rintro e w25 ⟨rfl, hb⟩; refine ⟨_, rfl, ?_⟩; have n0_ := Aside0.mk (Kd.R_below (dR_ HO204) hb); have n1_ := Aside0.mk (Kd.R_below (dR_ HO207) hb); have n2_ := Aside0.mk (below_step (dL_ HB) hb); clear HO204; clear HO207; clear HB; have HO204 := n0_; have HO207 := n1_; have HB := n2_; clear n0_ n1_ n2_; (try clear hb); (try clear hb2); (try clear hk); (try clear hi)) | ((with_reducible refine gate_dst (N := 3) rfl ?_); refine box_event ?hg (N := 3) ?hd (cs := #[.int .i64 0, .int .i64 0, .int .i64 0, .int .i64 0, .int .i64 0, .int .i64 0, .int .i64 0, .bool false]) (t := 33) ?hr ?_; (case hd => rfl); (case hg => rfl); (case hr => first | (go_simp; done) | (go_simp; rfl)); intro gb217 hg w26 hbox hb; have n0_ := Aside0.mk (Kd.R_below (dR_ HO204) hb); have n1_ := Aside0.mk (Kd.R_below (dR_ HO207) hb); have n2_ := Aside0.mk (below_step (dL_ HB) hb); have n3_ := Aside0.mk (hbox); have n4_ := Aside0.mk ((dS_ hg (dL_ HB) : w.heap.size ≤ gb217)); have n5_ := Aside0.mk ((dS_ hg (dL_ HB) : w.heap.size ≤ gb217)); clear HO204; clear HO207; clear HB; have HO204 := n0_; have HO207 := n1_; have HB := n2_; have BK217 := n3_; have GW217 := n4_; have GE217 := n5_; clear n0_ n1_ n2_ n3_ n4_ n5_; clear hb hbox hg; obtain ⟨hcz27_0, hcz27_1, hcz27_2, hcz27_3, hcz27_4, hcz27_5, hcz27_6, hcz27_7, hfz27_0, hfz27_1, hfz27_2, hfz27_3, hfz27_4, hfz27_5, hfz27_6, hfz27_7⟩ := cs8_ BK217.out))
      go_ret
      exact ⟨tE_, dL1_ HB GE217⟩
    ·rw [if_neg c6] at H
     have c6b0 : (t208 == 600) = false := beq_eq_false_iff_ne.mpr c6
     have c6b1 : (t208 != 600) = true := bne_iff_ne.mpr c6
     obtain rfl := Option.some.inj H
     go_enter Try.func16, Try.ntmps16
     go_wp2_with (first | ((with_reducible refine gate_callee (f := 21) rfl ?_); refine goesL_ (some 7) rfl rfl Try.func21 (by kernel_rfl) rfl #[.agg #[.int .i64 600, .int .i64 2000, .int .i64 80, .int .i64 200, .int .i64 0, .int .i64 0, .int .i64 0, .bool false], .int .i64 0, .int .i64 0, .int .i64 600, .int .i64 0] rfl tA_ ?_; (with_reducible refine (fleet_Speed.calls k 600 2000 80 200 0 0 0 false 0 0 600 0 t200 t201 _ A1.out).mono ?_); rintro e w28 ⟨rfl, hb⟩; refine ⟨_, rfl, ?_⟩; have n0_ := Aside0.mk (below_step (dL_ HB) hb); clear HB; have HB := n0_; clear n0_; (try clear hb); (try clear hb2); (try clear hk); (try clear hi)) | ((with_reducible refine gate_dst (N := 12) rfl ?_); refine Kd.R_lit k54 _ 54 ?hg (N := 12) ?hd (xs := ([(⟨(⟨#[97]⟩ : ByteArray), 0, 0, 5, 3, 0, 0, 0, 8, 0, 0, 1, 0, false⟩ : S54)] : List (S54))) (inner := [.string (⟨#[97]⟩ : ByteArray), .int .i64 0, .int .i64 0, .int .i64 5, .int .i64 3, .int .i64 0, .int .i64 0, .int .i64 0, .int .i64 8, .int .i64 0, .int .i64 0, .int .i64 1, .int .i64 0, .bool false]) (ok := fun _ => True) (okp := fun _ => True) ?hr ?hp (fun _ hk => hk) trivial (Below.refl _ _) (Nat.le_refl _) (by simp) ?_; (case hd => rfl); (case hg => rfl); (case hr => first | (go_simp; done) | (go_simp; rfl)); (case hp => exact (Reps.front (show Kd.M k54 _ _ _ (⟨(⟨#[97]⟩ : ByteArray), 0, 0, 5, 3, 0, 0, 0, 8, 0, 0, 1, 0, false⟩ : S54) [.string (⟨#[97]⟩ : ByteArray), .int .i64 0, .int .i64 0, .int .i64 5, .int .i64 3, .int .i64 0, .int .i64 0, .int .i64 0, .int .i64 8, .int .i64 0, .int .i64 0, .int .i64 1, .int .i64 0, .bool false] from (k54_mkM _ _ _ (⟨(⟨#[97]⟩ : ByteArray), 0, 0, 5, 3, 0, 0, 0, 8, 0, 0, 1, 0, false⟩ : S54) )) rfl (Reps.none _ _) rfl)); intro v203 w29 ho30 hb hg_ hnew_; clear hg_ hnew_; (first | rw [← Ny202.out] at ho30 | (simp only [Int.reduceToNat] at ho30; rw [← Ny202.out] at ho30)); have n0_ := Aside0.mk (Kd.R_lower ho30 (below_size (dL_ HB))); have n1_ := Aside0.mk (below_step (dL_ HB) hb); clear HB; have HO204 := n0_; have HB := n1_; clear n0_ n1_; clear hb ho30) | ((with_reducible refine gate_dst (N := 13) rfl ?_); refine Kd.R_lit (Kd.int .i64) _ 3 ?hg (N := 13) ?hd (xs := ([0] : List Int)) (inner := [.int .i64 0]) (ok := fun _ => True) (okp := fun _ => True) ?hr ?hp (fun _ hk => hk) trivial (Below.refl _ _) (Nat.le_refl _) (by simp) ?_; (case hd => rfl); (case hg => rfl); (case hr => first | (go_simp; done) | (go_simp; rfl)); (case hp => exact (Reps.one (show Kd.M (Kd.int .i64) _ _ _ 0 [.int .i64 0] from rfl) (Reps.none _ _))); intro v206 w31 ho32 hb hg_ hnew_; clear hg_ hnew_; (first | rw [← Ny205.out] at ho32 | (simp only [Int.reduceToNat] at ho32; rw [← Ny205.out] at ho32)); have n0_ := Aside0.mk (Kd.R_below (dR_ HO204) hb); have n1_ := Aside0.mk (Kd.R_lower ho32 (below_size (dL_ HB))); have n2_ := Aside0.mk (below_step (dL_ HB) hb); clear HO204; clear HB; have HO204 := n0_; have HO207 := n1_; have HB := n2_; clear n0_ n1_ n2_; clear hb ho32; obtain ⟨Ao33, co33, eo33⟩ := Kd.R_slice HO204.out; subst eo33; obtain ⟨Ao34, co34, eo34⟩ := Kd.R_slice HO207.out; subst eo34) | ((with_reducible refine gate_callee (f := 19) rfl ?_); refine goesL_ (some 14) rfl rfl Try.func19 (by kernel_rfl) rfl #[.slice Ao33 y202.length co33, .slice Ao34 y205.length co34] rfl tA_ ?_; (with_reducible refine (fleet_Facts.calls k _ _ y202 _ _ y205 t208 t209 t210 t211 t212 t213 t214 t215 t216 _ ?side1 ?side2 ?side3 ?side4 A2.out).mono ?_); (case side1 => repeat (first | exact (Kd.R_reads' HO204.out).2.2 | (with_reducible refine Kd.C_alloc ?_ _) | (with_reducible refine Kd.C_drewN ?_ _) | (with_reducible refine Kd.C_drew ?_))); (case side2 => exact (Kd.R_reads' HO204.out).2.1); (case side3 => repeat (first | exact (Kd.R_reads' HO207.out).2.2 | (with_reducible refine Kd.C_alloc ?_ _) | (with_reducible refine Kd.C_drewN ?_ _) | (with_reducible refine Kd.C_drew ?_))); (case side4 => exact (Kd.R_reads' HO207.out).2.1); rintro e w35 ⟨rfl, hb⟩; refine ⟨_, rfl, ?_⟩; have n0_ := Aside0.mk (Kd.R_below (dR_ HO204) hb); have n1_ := Aside0.mk (Kd.R_below (dR_ HO207) hb); have n2_ := Aside0.mk (below_step (dL_ HB) hb); clear HO204; clear HO207; clear HB; have HO204 := n0_; have HO207 := n1_; have HB := n2_; clear n0_ n1_ n2_; (try clear hb); (try clear hb2); (try clear hk); (try clear hi)) | ((with_reducible refine gate_dst (N := 3) rfl ?_); refine box_event ?hg (N := 3) ?hd (cs := #[.int .i64 0, .int .i64 0, .int .i64 0, .int .i64 0, .int .i64 0, .int .i64 0, .int .i64 0, .bool false]) (t := 33) ?hr ?_; (case hd => rfl); (case hg => rfl); (case hr => first | (go_simp; done) | (go_simp; rfl)); intro gb217 hg w36 hbox hb; have n0_ := Aside0.mk (Kd.R_below (dR_ HO204) hb); have n1_ := Aside0.mk (Kd.R_below (dR_ HO207) hb); have n2_ := Aside0.mk (below_step (dL_ HB) hb); have n3_ := Aside0.mk (hbox); have n4_ := Aside0.mk ((dS_ hg (dL_ HB) : w.heap.size ≤ gb217)); have n5_ := Aside0.mk ((dS_ hg (dL_ HB) : w.heap.size ≤ gb217)); clear HO204; clear HO207; clear HB; have HO204 := n0_; have HO207 := n1_; have HB := n2_; have BK217 := n3_; have GW217 := n4_; have GE217 := n5_; clear n0_ n1_ n2_ n3_ n4_ n5_; clear hb hbox hg; obtain ⟨hcz37_0, hcz37_1, hcz37_2, hcz37_3, hcz37_4, hcz37_5, hcz37_6, hcz37_7, hfz37_0, hfz37_1, hfz37_2, hfz37_3, hfz37_4, hfz37_5, hfz37_6, hfz37_7⟩ := cs8_ BK217.out))
     go_ret
     exact ⟨tE_, dL1_ HB GE217⟩
   ·rw [if_neg c5] at H
    have c5b0 : (t216 == 0) = false := beq_eq_false_iff_ne.mpr c5
    have c5b1 : (t216 != 0) = true := bne_iff_ne.mpr c5
    obtain rfl := Option.some.inj H
    go_enter Try.func16, Try.ntmps16
    go_wp2_with (first | ((with_reducible refine gate_callee (f := 21) rfl ?_); refine goesL_ (some 7) rfl rfl Try.func21 (by kernel_rfl) rfl #[.agg #[.int .i64 600, .int .i64 2000, .int .i64 80, .int .i64 200, .int .i64 0, .int .i64 0, .int .i64 0, .bool false], .int .i64 0, .int .i64 0, .int .i64 600, .int .i64 0] rfl tA_ ?_; (with_reducible refine (fleet_Speed.calls k 600 2000 80 200 0 0 0 false 0 0 600 0 t200 t201 _ A1.out).mono ?_); rintro e w38 ⟨rfl, hb⟩; refine ⟨_, rfl, ?_⟩; have n0_ := Aside0.mk (below_step (dL_ HB) hb); clear HB; have HB := n0_; clear n0_; (try clear hb); (try clear hb2); (try clear hk); (try clear hi)) | ((with_reducible refine gate_dst (N := 12) rfl ?_); refine Kd.R_lit k54 _ 54 ?hg (N := 12) ?hd (xs := ([(⟨(⟨#[97]⟩ : ByteArray), 0, 0, 5, 3, 0, 0, 0, 8, 0, 0, 1, 0, false⟩ : S54)] : List (S54))) (inner := [.string (⟨#[97]⟩ : ByteArray), .int .i64 0, .int .i64 0, .int .i64 5, .int .i64 3, .int .i64 0, .int .i64 0, .int .i64 0, .int .i64 8, .int .i64 0, .int .i64 0, .int .i64 1, .int .i64 0, .bool false]) (ok := fun _ => True) (okp := fun _ => True) ?hr ?hp (fun _ hk => hk) trivial (Below.refl _ _) (Nat.le_refl _) (by simp) ?_; (case hd => rfl); (case hg => rfl); (case hr => first | (go_simp; done) | (go_simp; rfl)); (case hp => exact (Reps.front (show Kd.M k54 _ _ _ (⟨(⟨#[97]⟩ : ByteArray), 0, 0, 5, 3, 0, 0, 0, 8, 0, 0, 1, 0, false⟩ : S54) [.string (⟨#[97]⟩ : ByteArray), .int .i64 0, .int .i64 0, .int .i64 5, .int .i64 3, .int .i64 0, .int .i64 0, .int .i64 0, .int .i64 8, .int .i64 0, .int .i64 0, .int .i64 1, .int .i64 0, .bool false] from (k54_mkM _ _ _ (⟨(⟨#[97]⟩ : ByteArray), 0, 0, 5, 3, 0, 0, 0, 8, 0, 0, 1, 0, false⟩ : S54) )) rfl (Reps.none _ _) rfl)); intro v203 w39 ho40 hb hg_ hnew_; clear hg_ hnew_; (first | rw [← Ny202.out] at ho40 | (simp only [Int.reduceToNat] at ho40; rw [← Ny202.out] at ho40)); have n0_ := Aside0.mk (Kd.R_lower ho40 (below_size (dL_ HB))); have n1_ := Aside0.mk (below_step (dL_ HB) hb); clear HB; have HO204 := n0_; have HB := n1_; clear n0_ n1_; clear hb ho40) | ((with_reducible refine gate_dst (N := 13) rfl ?_); refine Kd.R_lit (Kd.int .i64) _ 3 ?hg (N := 13) ?hd (xs := ([0] : List Int)) (inner := [.int .i64 0]) (ok := fun _ => True) (okp := fun _ => True) ?hr ?hp (fun _ hk => hk) trivial (Below.refl _ _) (Nat.le_refl _) (by simp) ?_; (case hd => rfl); (case hg => rfl); (case hr => first | (go_simp; done) | (go_simp; rfl)); (case hp => exact (Reps.one (show Kd.M (Kd.int .i64) _ _ _ 0 [.int .i64 0] from rfl) (Reps.none _ _))); intro v206 w41 ho42 hb hg_ hnew_; clear hg_ hnew_; (first | rw [← Ny205.out] at ho42 | (simp only [Int.reduceToNat] at ho42; rw [← Ny205.out] at ho42)); have n0_ := Aside0.mk (Kd.R_below (dR_ HO204) hb); have n1_ := Aside0.mk (Kd.R_lower ho42 (below_size (dL_ HB))); have n2_ := Aside0.mk (below_step (dL_ HB) hb); clear HO204; clear HB; have HO204 := n0_; have HO207 := n1_; have HB := n2_; clear n0_ n1_ n2_; clear hb ho42; obtain ⟨Ao43, co43, eo43⟩ := Kd.R_slice HO204.out; subst eo43; obtain ⟨Ao44, co44, eo44⟩ := Kd.R_slice HO207.out; subst eo44) | ((with_reducible refine gate_callee (f := 19) rfl ?_); refine goesL_ (some 14) rfl rfl Try.func19 (by kernel_rfl) rfl #[.slice Ao43 y202.length co43, .slice Ao44 y205.length co44] rfl tA_ ?_; (with_reducible refine (fleet_Facts.calls k _ _ y202 _ _ y205 t208 t209 t210 t211 t212 t213 t214 t215 t216 _ ?side1 ?side2 ?side3 ?side4 A2.out).mono ?_); (case side1 => repeat (first | exact (Kd.R_reads' HO204.out).2.2 | (with_reducible refine Kd.C_alloc ?_ _) | (with_reducible refine Kd.C_drewN ?_ _) | (with_reducible refine Kd.C_drew ?_))); (case side2 => exact (Kd.R_reads' HO204.out).2.1); (case side3 => repeat (first | exact (Kd.R_reads' HO207.out).2.2 | (with_reducible refine Kd.C_alloc ?_ _) | (with_reducible refine Kd.C_drewN ?_ _) | (with_reducible refine Kd.C_drew ?_))); (case side4 => exact (Kd.R_reads' HO207.out).2.1); rintro e w45 ⟨rfl, hb⟩; refine ⟨_, rfl, ?_⟩; have n0_ := Aside0.mk (Kd.R_below (dR_ HO204) hb); have n1_ := Aside0.mk (Kd.R_below (dR_ HO207) hb); have n2_ := Aside0.mk (below_step (dL_ HB) hb); clear HO204; clear HO207; clear HB; have HO204 := n0_; have HO207 := n1_; have HB := n2_; clear n0_ n1_ n2_; (try clear hb); (try clear hb2); (try clear hk); (try clear hi)) | ((with_reducible refine gate_dst (N := 3) rfl ?_); refine box_event ?hg (N := 3) ?hd (cs := #[.int .i64 0, .int .i64 0, .int .i64 0, .int .i64 0, .int .i64 0, .int .i64 0, .int .i64 0, .bool false]) (t := 33) ?hr ?_; (case hd => rfl); (case hg => rfl); (case hr => first | (go_simp; done) | (go_simp; rfl)); intro gb217 hg w46 hbox hb; have n0_ := Aside0.mk (Kd.R_below (dR_ HO204) hb); have n1_ := Aside0.mk (Kd.R_below (dR_ HO207) hb); have n2_ := Aside0.mk (below_step (dL_ HB) hb); have n3_ := Aside0.mk (hbox); have n4_ := Aside0.mk ((dS_ hg (dL_ HB) : w.heap.size ≤ gb217)); have n5_ := Aside0.mk ((dS_ hg (dL_ HB) : w.heap.size ≤ gb217)); clear HO204; clear HO207; clear HB; have HO204 := n0_; have HO207 := n1_; have HB := n2_; have BK217 := n3_; have GW217 := n4_; have GE217 := n5_; clear n0_ n1_ n2_ n3_ n4_ n5_; clear hb hbox hg; obtain ⟨hcz47_0, hcz47_1, hcz47_2, hcz47_3, hcz47_4, hcz47_5, hcz47_6, hcz47_7, hfz47_0, hfz47_1, hfz47_2, hfz47_3, hfz47_4, hfz47_5, hfz47_6, hfz47_7⟩ := cs8_ BK217.out))
    go_ret
    exact ⟨tE_, dL1_ HB GE217⟩
  ·rw [if_neg c4] at H
   have c4b0 : (t200 == 8) = false := beq_eq_false_iff_ne.mpr c4
   have c4b1 : (t200 != 8) = true := bne_iff_ne.mpr c4
   obtain rfl := Option.some.inj H
   go_enter Try.func16, Try.ntmps16
   go_wp2_with (first | ((with_reducible refine gate_callee (f := 21) rfl ?_); refine goesL_ (some 7) rfl rfl Try.func21 (by kernel_rfl) rfl #[.agg #[.int .i64 600, .int .i64 2000, .int .i64 80, .int .i64 200, .int .i64 0, .int .i64 0, .int .i64 0, .bool false], .int .i64 0, .int .i64 0, .int .i64 600, .int .i64 0] rfl tA_ ?_; (with_reducible refine (fleet_Speed.calls k 600 2000 80 200 0 0 0 false 0 0 600 0 t200 t201 _ A1.out).mono ?_); rintro e w48 ⟨rfl, hb⟩; refine ⟨_, rfl, ?_⟩; have n0_ := Aside0.mk (below_step (dL_ HB) hb); clear HB; have HB := n0_; clear n0_; (try clear hb); (try clear hb2); (try clear hk); (try clear hi)) | ((with_reducible refine gate_dst (N := 12) rfl ?_); refine Kd.R_lit k54 _ 54 ?hg (N := 12) ?hd (xs := ([(⟨(⟨#[97]⟩ : ByteArray), 0, 0, 5, 3, 0, 0, 0, 8, 0, 0, 1, 0, false⟩ : S54)] : List (S54))) (inner := [.string (⟨#[97]⟩ : ByteArray), .int .i64 0, .int .i64 0, .int .i64 5, .int .i64 3, .int .i64 0, .int .i64 0, .int .i64 0, .int .i64 8, .int .i64 0, .int .i64 0, .int .i64 1, .int .i64 0, .bool false]) (ok := fun _ => True) (okp := fun _ => True) ?hr ?hp (fun _ hk => hk) trivial (Below.refl _ _) (Nat.le_refl _) (by simp) ?_; (case hd => rfl); (case hg => rfl); (case hr => first | (go_simp; done) | (go_simp; rfl)); (case hp => exact (Reps.front (show Kd.M k54 _ _ _ (⟨(⟨#[97]⟩ : ByteArray), 0, 0, 5, 3, 0, 0, 0, 8, 0, 0, 1, 0, false⟩ : S54) [.string (⟨#[97]⟩ : ByteArray), .int .i64 0, .int .i64 0, .int .i64 5, .int .i64 3, .int .i64 0, .int .i64 0, .int .i64 0, .int .i64 8, .int .i64 0, .int .i64 0, .int .i64 1, .int .i64 0, .bool false] from (k54_mkM _ _ _ (⟨(⟨#[97]⟩ : ByteArray), 0, 0, 5, 3, 0, 0, 0, 8, 0, 0, 1, 0, false⟩ : S54) )) rfl (Reps.none _ _) rfl)); intro v203 w49 ho50 hb hg_ hnew_; clear hg_ hnew_; (first | rw [← Ny202.out] at ho50 | (simp only [Int.reduceToNat] at ho50; rw [← Ny202.out] at ho50)); have n0_ := Aside0.mk (Kd.R_lower ho50 (below_size (dL_ HB))); have n1_ := Aside0.mk (below_step (dL_ HB) hb); clear HB; have HO204 := n0_; have HB := n1_; clear n0_ n1_; clear hb ho50) | ((with_reducible refine gate_dst (N := 13) rfl ?_); refine Kd.R_lit (Kd.int .i64) _ 3 ?hg (N := 13) ?hd (xs := ([0] : List Int)) (inner := [.int .i64 0]) (ok := fun _ => True) (okp := fun _ => True) ?hr ?hp (fun _ hk => hk) trivial (Below.refl _ _) (Nat.le_refl _) (by simp) ?_; (case hd => rfl); (case hg => rfl); (case hr => first | (go_simp; done) | (go_simp; rfl)); (case hp => exact (Reps.one (show Kd.M (Kd.int .i64) _ _ _ 0 [.int .i64 0] from rfl) (Reps.none _ _))); intro v206 w51 ho52 hb hg_ hnew_; clear hg_ hnew_; (first | rw [← Ny205.out] at ho52 | (simp only [Int.reduceToNat] at ho52; rw [← Ny205.out] at ho52)); have n0_ := Aside0.mk (Kd.R_below (dR_ HO204) hb); have n1_ := Aside0.mk (Kd.R_lower ho52 (below_size (dL_ HB))); have n2_ := Aside0.mk (below_step (dL_ HB) hb); clear HO204; clear HB; have HO204 := n0_; have HO207 := n1_; have HB := n2_; clear n0_ n1_ n2_; clear hb ho52; obtain ⟨Ao53, co53, eo53⟩ := Kd.R_slice HO204.out; subst eo53; obtain ⟨Ao54, co54, eo54⟩ := Kd.R_slice HO207.out; subst eo54) | ((with_reducible refine gate_callee (f := 19) rfl ?_); refine goesL_ (some 14) rfl rfl Try.func19 (by kernel_rfl) rfl #[.slice Ao53 y202.length co53, .slice Ao54 y205.length co54] rfl tA_ ?_; (with_reducible refine (fleet_Facts.calls k _ _ y202 _ _ y205 t208 t209 t210 t211 t212 t213 t214 t215 t216 _ ?side1 ?side2 ?side3 ?side4 A2.out).mono ?_); (case side1 => repeat (first | exact (Kd.R_reads' HO204.out).2.2 | (with_reducible refine Kd.C_alloc ?_ _) | (with_reducible refine Kd.C_drewN ?_ _) | (with_reducible refine Kd.C_drew ?_))); (case side2 => exact (Kd.R_reads' HO204.out).2.1); (case side3 => repeat (first | exact (Kd.R_reads' HO207.out).2.2 | (with_reducible refine Kd.C_alloc ?_ _) | (with_reducible refine Kd.C_drewN ?_ _) | (with_reducible refine Kd.C_drew ?_))); (case side4 => exact (Kd.R_reads' HO207.out).2.1); rintro e w55 ⟨rfl, hb⟩; refine ⟨_, rfl, ?_⟩; have n0_ := Aside0.mk (Kd.R_below (dR_ HO204) hb); have n1_ := Aside0.mk (Kd.R_below (dR_ HO207) hb); have n2_ := Aside0.mk (below_step (dL_ HB) hb); clear HO204; clear HO207; clear HB; have HO204 := n0_; have HO207 := n1_; have HB := n2_; clear n0_ n1_ n2_; (try clear hb); (try clear hb2); (try clear hk); (try clear hi)) | ((with_reducible refine gate_dst (N := 3) rfl ?_); refine box_event ?hg (N := 3) ?hd (cs := #[.int .i64 0, .int .i64 0, .int .i64 0, .int .i64 0, .int .i64 0, .int .i64 0, .int .i64 0, .bool false]) (t := 33) ?hr ?_; (case hd => rfl); (case hg => rfl); (case hr => first | (go_simp; done) | (go_simp; rfl)); intro gb217 hg w56 hbox hb; have n0_ := Aside0.mk (Kd.R_below (dR_ HO204) hb); have n1_ := Aside0.mk (Kd.R_below (dR_ HO207) hb); have n2_ := Aside0.mk (below_step (dL_ HB) hb); have n3_ := Aside0.mk (hbox); have n4_ := Aside0.mk ((dS_ hg (dL_ HB) : w.heap.size ≤ gb217)); have n5_ := Aside0.mk ((dS_ hg (dL_ HB) : w.heap.size ≤ gb217)); clear HO204; clear HO207; clear HB; have HO204 := n0_; have HO207 := n1_; have HB := n2_; have BK217 := n3_; have GW217 := n4_; have GE217 := n5_; clear n0_ n1_ n2_ n3_ n4_ n5_; clear hb hbox hg; obtain ⟨hcz57_0, hcz57_1, hcz57_2, hcz57_3, hcz57_4, hcz57_5, hcz57_6, hcz57_7, hfz57_0, hfz57_1, hfz57_2, hfz57_3, hfz57_4, hfz57_5, hfz57_6, hfz57_7⟩ := cs8_ BK217.out))
   go_ret
   exact ⟨tE_, dL1_ HB GE217⟩
 ·rw [if_neg c3] at H
  have c3b0 : (t201 == 0) = false := beq_eq_false_iff_ne.mpr c3
  have c3b1 : (t201 != 0) = true := bne_iff_ne.mpr c3
  obtain rfl := Option.some.inj H
  go_enter Try.func16, Try.ntmps16
  go_wp2_with (first | ((with_reducible refine gate_callee (f := 21) rfl ?_); refine goesL_ (some 7) rfl rfl Try.func21 (by kernel_rfl) rfl #[.agg #[.int .i64 600, .int .i64 2000, .int .i64 80, .int .i64 200, .int .i64 0, .int .i64 0, .int .i64 0, .bool false], .int .i64 0, .int .i64 0, .int .i64 600, .int .i64 0] rfl tA_ ?_; (with_reducible refine (fleet_Speed.calls k 600 2000 80 200 0 0 0 false 0 0 600 0 t200 t201 _ A1.out).mono ?_); rintro e w58 ⟨rfl, hb⟩; refine ⟨_, rfl, ?_⟩; have n0_ := Aside0.mk (below_step (dL_ HB) hb); clear HB; have HB := n0_; clear n0_; (try clear hb); (try clear hb2); (try clear hk); (try clear hi)) | ((with_reducible refine gate_dst (N := 12) rfl ?_); refine Kd.R_lit k54 _ 54 ?hg (N := 12) ?hd (xs := ([(⟨(⟨#[97]⟩ : ByteArray), 0, 0, 5, 3, 0, 0, 0, 8, 0, 0, 1, 0, false⟩ : S54)] : List (S54))) (inner := [.string (⟨#[97]⟩ : ByteArray), .int .i64 0, .int .i64 0, .int .i64 5, .int .i64 3, .int .i64 0, .int .i64 0, .int .i64 0, .int .i64 8, .int .i64 0, .int .i64 0, .int .i64 1, .int .i64 0, .bool false]) (ok := fun _ => True) (okp := fun _ => True) ?hr ?hp (fun _ hk => hk) trivial (Below.refl _ _) (Nat.le_refl _) (by simp) ?_; (case hd => rfl); (case hg => rfl); (case hr => first | (go_simp; done) | (go_simp; rfl)); (case hp => exact (Reps.front (show Kd.M k54 _ _ _ (⟨(⟨#[97]⟩ : ByteArray), 0, 0, 5, 3, 0, 0, 0, 8, 0, 0, 1, 0, false⟩ : S54) [.string (⟨#[97]⟩ : ByteArray), .int .i64 0, .int .i64 0, .int .i64 5, .int .i64 3, .int .i64 0, .int .i64 0, .int .i64 0, .int .i64 8, .int .i64 0, .int .i64 0, .int .i64 1, .int .i64 0, .bool false] from (k54_mkM _ _ _ (⟨(⟨#[97]⟩ : ByteArray), 0, 0, 5, 3, 0, 0, 0, 8, 0, 0, 1, 0, false⟩ : S54) )) rfl (Reps.none _ _) rfl)); intro v203 w59 ho60 hb hg_ hnew_; clear hg_ hnew_; (first | rw [← Ny202.out] at ho60 | (simp only [Int.reduceToNat] at ho60; rw [← Ny202.out] at ho60)); have n0_ := Aside0.mk (Kd.R_lower ho60 (below_size (dL_ HB))); have n1_ := Aside0.mk (below_step (dL_ HB) hb); clear HB; have HO204 := n0_; have HB := n1_; clear n0_ n1_; clear hb ho60) | ((with_reducible refine gate_dst (N := 13) rfl ?_); refine Kd.R_lit (Kd.int .i64) _ 3 ?hg (N := 13) ?hd (xs := ([0] : List Int)) (inner := [.int .i64 0]) (ok := fun _ => True) (okp := fun _ => True) ?hr ?hp (fun _ hk => hk) trivial (Below.refl _ _) (Nat.le_refl _) (by simp) ?_; (case hd => rfl); (case hg => rfl); (case hr => first | (go_simp; done) | (go_simp; rfl)); (case hp => exact (Reps.one (show Kd.M (Kd.int .i64) _ _ _ 0 [.int .i64 0] from rfl) (Reps.none _ _))); intro v206 w61 ho62 hb hg_ hnew_; clear hg_ hnew_; (first | rw [← Ny205.out] at ho62 | (simp only [Int.reduceToNat] at ho62; rw [← Ny205.out] at ho62)); have n0_ := Aside0.mk (Kd.R_below (dR_ HO204) hb); have n1_ := Aside0.mk (Kd.R_lower ho62 (below_size (dL_ HB))); have n2_ := Aside0.mk (below_step (dL_ HB) hb); clear HO204; clear HB; have HO204 := n0_; have HO207 := n1_; have HB := n2_; clear n0_ n1_ n2_; clear hb ho62; obtain ⟨Ao63, co63, eo63⟩ := Kd.R_slice HO204.out; subst eo63; obtain ⟨Ao64, co64, eo64⟩ := Kd.R_slice HO207.out; subst eo64) | ((with_reducible refine gate_callee (f := 19) rfl ?_); refine goesL_ (some 14) rfl rfl Try.func19 (by kernel_rfl) rfl #[.slice Ao63 y202.length co63, .slice Ao64 y205.length co64] rfl tA_ ?_; (with_reducible refine (fleet_Facts.calls k _ _ y202 _ _ y205 t208 t209 t210 t211 t212 t213 t214 t215 t216 _ ?side1 ?side2 ?side3 ?side4 A2.out).mono ?_); (case side1 => repeat (first | exact (Kd.R_reads' HO204.out).2.2 | (with_reducible refine Kd.C_alloc ?_ _) | (with_reducible refine Kd.C_drewN ?_ _) | (with_reducible refine Kd.C_drew ?_))); (case side2 => exact (Kd.R_reads' HO204.out).2.1); (case side3 => repeat (first | exact (Kd.R_reads' HO207.out).2.2 | (with_reducible refine Kd.C_alloc ?_ _) | (with_reducible refine Kd.C_drewN ?_ _) | (with_reducible refine Kd.C_drew ?_))); (case side4 => exact (Kd.R_reads' HO207.out).2.1); rintro e w65 ⟨rfl, hb⟩; refine ⟨_, rfl, ?_⟩; have n0_ := Aside0.mk (Kd.R_below (dR_ HO204) hb); have n1_ := Aside0.mk (Kd.R_below (dR_ HO207) hb); have n2_ := Aside0.mk (below_step (dL_ HB) hb); clear HO204; clear HO207; clear HB; have HO204 := n0_; have HO207 := n1_; have HB := n2_; clear n0_ n1_ n2_; (try clear hb); (try clear hb2); (try clear hk); (try clear hi)) | ((with_reducible refine gate_dst (N := 3) rfl ?_); refine box_event ?hg (N := 3) ?hd (cs := #[.int .i64 0, .int .i64 0, .int .i64 0, .int .i64 0, .int .i64 0, .int .i64 0, .int .i64 0, .bool false]) (t := 33) ?hr ?_; (case hd => rfl); (case hg => rfl); (case hr => first | (go_simp; done) | (go_simp; rfl)); intro gb217 hg w66 hbox hb; have n0_ := Aside0.mk (Kd.R_below (dR_ HO204) hb); have n1_ := Aside0.mk (Kd.R_below (dR_ HO207) hb); have n2_ := Aside0.mk (below_step (dL_ HB) hb); have n3_ := Aside0.mk (hbox); have n4_ := Aside0.mk ((dS_ hg (dL_ HB) : w.heap.size ≤ gb217)); have n5_ := Aside0.mk ((dS_ hg (dL_ HB) : w.heap.size ≤ gb217)); clear HO204; clear HO207; clear HB; have HO204 := n0_; have HO207 := n1_; have HB := n2_; have BK217 := n3_; have GW217 := n4_; have GE217 := n5_; clear n0_ n1_ n2_ n3_ n4_ n5_; clear hb hbox hg; obtain ⟨hcz67_0, hcz67_1, hcz67_2, hcz67_3, hcz67_4, hcz67_5, hcz67_6, hcz67_7, hfz67_0, hfz67_1, hfz67_2, hfz67_3, hfz67_4, hfz67_5, hfz67_6, hfz67_7⟩ := cs8_ BK217.out))
  go_ret
  exact ⟨tE_, dL1_ HB GE217⟩

end Go.Proofs.Ytgnahbjpockdmaa.Q
namespace Go.Proofs.Ytgnahbjpockdmaa.Q
open Go.RowKit Go.Proofs.YtgnahbjpockdmaaPrs Go.Proofs.YtgnahbjpockdmaaOwn Go.Proofs.YtgnahbjpockdmaaW.PrintWords Go.Proofs.YtgnahbjpockdmaaW.PrintLast Go.Proofs.YtgnahbjpockdmaaW.PrintMore
attribute [local go_sem] max2_int min2_int max_two min_two max_three min_three max_four min_four   -- for this text's walks alone
set_option linter.unusedVariables false
set_option linter.unusedSimpArgs false

/-! ### hinterlandref14_within: function 42 -/
def hinterlandref14_within.f (a0 : Int) (a1 : Int) (a2 : Int) : Option (Bool) := if a0 ≥ a1 then (some (decide (a0 ≤ a2))) else (some false)
set_option maxHeartbeats 8000000 in
set_option maxRecDepth 100000 in
theorem hinterlandref14_within.calls (a0 : Int) (a1 : Int) (a2 : Int) (r : Bool) (w : World) (h : hinterlandref14_within.f a0 a1 a2 = some r) :
    Calls Try.prog 42 #[.int .i64 a0, .int .i64 a1, .int .i64 a2] w fun e w' => e = .returned (.bool r) ∧ Drawn0 w w' := by
 have H : (if a0 ≥ a1 then (some (decide (a0 ≤ a2))) else (some false)) = some r := h
 clear h
 by_cases c4 : a0 ≥ a1
 ·rw [if_pos c4] at H
  have c4b0 : decide (a1 ≤ a0) = true := decide_eq_true c4
  clear c4
  obtain rfl := Option.some.inj H
  go_enter Try.func42, Try.ntmps42
  go_wp2
  go_ret
  exact ⟨tS_, by repeat (first | exact Drawn0.refl _ | apply Drawn0.step)⟩
 ·rw [if_neg c4] at H
  have c4b0 : decide (a1 ≤ a0) = false := decide_eq_false c4
  clear c4
  obtain rfl := Option.some.inj H
  go_enter Try.func42, Try.ntmps42
  go_wp2
  go_ret
  exact ⟨tS_, by repeat (first | exact Drawn0.refl _ | apply Drawn0.step)⟩

end Go.Proofs.Ytgnahbjpockdmaa.Q
namespace Go.Proofs.Ytgnahbjpockdmaa.Q
open Go.RowKit Go.Proofs.YtgnahbjpockdmaaPrs Go.Proofs.YtgnahbjpockdmaaOwn Go.Proofs.YtgnahbjpockdmaaW.PrintWords Go.Proofs.YtgnahbjpockdmaaW.PrintLast Go.Proofs.YtgnahbjpockdmaaW.PrintMore
attribute [local go_sem] max2_int min2_int max_two min_two max_three min_three max_four min_four   -- for this text's walks alone
set_option linter.unusedVariables false
set_option linter.unusedSimpArgs false

/-! ### hinterlandref10_Named: function 58 -/
mutual
def hinterlandref10_Named.j0 : Nat → ByteArray → Bool → Option (Bool)
  | 0, _, _ => none
  | k + 1, x0, x11 => if x11 = true then (some false) else (hinterlandref10_Named.l0 k x0 0)
def hinterlandref10_Named.l0 : Nat → ByteArray → Int → Option (Bool)
  | 0, _, _ => none
  | k + 1, x0, x3 => if x3 < (x0.size : Int) then (if 0 ≤ x3 then (if (bt x0 x3) < 97 then (hinterlandref10_Named.j2 k x0 x3 true) else (hinterlandref10_Named.j2 k x0 x3 (decide ((bt x0 x3) > 122)))) else (none)) else (some true)
def hinterlandref10_Named.j2 : Nat → ByteArray → Int → Bool → Option (Bool)
  | 0, _, _, _ => none
  | k + 1, x0, x3, x27 => if x27 = true then (some false) else (hinterlandref10_Named.l0 k x0 (wrap64 (x3 + 1)))
end
def hinterlandref10_Named.f (k : Nat) (a0 : ByteArray) : Option (Bool) := if (a0.size : Int) < 1 then (hinterlandref10_Named.j0 k a0 true) else (hinterlandref10_Named.j0 k a0 (decide ((a0.size : Int) > 12)))
theorem hinterlandref10_Named.mono_l : ∀ k, (∀ y0 y1, LeO (hinterlandref10_Named.j0 k y0 y1) (hinterlandref10_Named.j0 (k + 1) y0 y1)) ∧ (∀ y0 y1, LeO (hinterlandref10_Named.l0 k y0 y1) (hinterlandref10_Named.l0 (k + 1) y0 y1)) ∧ (∀ y0 y1 y2, LeO (hinterlandref10_Named.j2 k y0 y1 y2) (hinterlandref10_Named.j2 (k + 1) y0 y1 y2))
  | 0 => ⟨fun _ _ r h => by simp [hinterlandref10_Named.j0] at h, fun _ _ r h => by simp [hinterlandref10_Named.l0] at h, fun _ _ _ r h => by simp [hinterlandref10_Named.j2] at h⟩
  | k + 1 => by
    obtain ⟨ih0, ih1, ih2⟩ := hinterlandref10_Named.mono_l k
    refine ⟨?_, ?_, ?_⟩
    · intro y0 y1
      unfold hinterlandref10_Named.j0
      repeat' first
      | (with_reducible exact ih0 _ _)
      | (with_reducible exact ih1 _ _)
      | (with_reducible exact ih2 _ _ _)
      | (with_reducible exact LeO.refl _)
      | (with_reducible exact LeO.none _)
      | (with_reducible refine LeO.ite ?_ ?_)
      | (with_reducible refine LeO.bind ?_ (fun _ => ?_))
      | exact ih0 _ _
      | exact ih1 _ _
      | exact ih2 _ _ _
      | exact LeO.none _
      | refine LeO.ite ?_ ?_
      | refine LeO.bind ?_ (fun _ => ?_)
    · intro y0 y1
      unfold hinterlandref10_Named.l0
      repeat' first
      | (with_reducible exact ih0 _ _)
      | (with_reducible exact ih1 _ _)
      | (with_reducible exact ih2 _ _ _)
      | (with_reducible exact LeO.refl _)
      | (with_reducible exact LeO.none _)
      | (with_reducible refine LeO.ite ?_ ?_)
      | (with_reducible refine LeO.bind ?_ (fun _ => ?_))
      | exact ih0 _ _
      | exact ih1 _ _
      | exact ih2 _ _ _
      | exact LeO.none _
      | refine LeO.ite ?_ ?_
      | refine LeO.bind ?_ (fun _ => ?_)
    · intro y0 y1 y2
      unfold hinterlandref10_Named.j2
      repeat' first
      | (with_reducible exact ih0 _ _)
      | (with_reducible exact ih1 _ _)
      | (with_reducible exact ih2 _ _ _)
      | (with_reducible exact LeO.refl _)
      | (with_reducible exact LeO.none _)
      | (with_reducible refine LeO.ite ?_ ?_)
      | (with_reducible refine LeO.bind ?_ (fun _ => ?_))
      | exact ih0 _ _
      | exact ih1 _ _
      | exact ih2 _ _ _
      | exact LeO.none _
      | refine LeO.ite ?_ ?_
      | refine LeO.bind ?_ (fun _ => ?_)
theorem hinterlandref10_Named.mono : ∀ a0 k, LeO (hinterlandref10_Named.f k a0) (hinterlandref10_Named.f (k + 1) a0) := by
  intro a0 k
  obtain ⟨ih0, ih1, ih2⟩ := hinterlandref10_Named.mono_l k
  unfold hinterlandref10_Named.f
  repeat' first
      | (with_reducible exact ih0 _ _)
      | (with_reducible exact ih1 _ _)
      | (with_reducible exact ih2 _ _ _)
      | (with_reducible exact LeO.refl _)
      | (with_reducible exact LeO.none _)
      | (with_reducible refine LeO.ite ?_ ?_)
      | (with_reducible refine LeO.bind ?_ (fun _ => ?_))
      | exact ih0 _ _
      | exact ih1 _ _
      | exact ih2 _ _ _
      | exact LeO.none _
      | refine LeO.ite ?_ ?_
      | refine LeO.bind ?_ (fun _ => ?_)
set_option maxHeartbeats 8000000 in
set_option maxRecDepth 100000 in
theorem hinterlandref10_Named.calls (k : Nat) (a0 : ByteArray) (r : Bool) (w : World) (h : hinterlandref10_Named.f k a0 = some r) :
    Calls Try.prog 58 #[.string a0] w fun e w' => e = .returned (.bool r) ∧ Drawn0 w w' := by
 have H : (if (a0.size : Int) < 1 then (hinterlandref10_Named.j0 k a0 true) else (hinterlandref10_Named.j0 k a0 (decide ((a0.size : Int) > 12)))) = some r := h
 clear h
 have HC2 := Aside0.mk H
 clear H
 go_enter Try.func58, Try.ntmps58
 go_upto_region 1 with (fail)
 go_cut [11] (fun v11 wc => ∃ (kq : Nat) (x11_1 : Bool), v11 = .bool x11_1 ∧ Aside0 (hinterlandref10_Named.j0 kq a0 x11_1 = some r) ∧ Aside0 (kq ≤ k) ∧ Drawn0 w wc)
 case first =>
  have H := HC2.out
  clear HC2
  by_cases c3 : (a0.size : Int) < 1
  ·rw [if_pos c3] at H
   have c3b0 : decide ((a0.size : Int) < 1) = true := decide_eq_true c3
   have c3b1 : decide (a0.size < 1) = true := decide_eq_true (by omega)
   clear c3
   (first | rw [c3b0] | (simp only [i64_w, i32_w]; rw [c3b0]) | skip)
   have H' := Aside0.mk H
   clear H
   go_wp2
   go_meet
   case rel => exact ⟨_, (true), tS_, H', ⟨by first | omega | exact Nat.le_refl _⟩, by repeat (first | exact Drawn0.refl _ | apply Drawn0.step)⟩
  ·rw [if_neg c3] at H
   have c3b0 : decide ((a0.size : Int) < 1) = false := decide_eq_false c3
   have c3b1 : decide (a0.size < 1) = false := decide_eq_false (by omega)
   clear c3
   (first | rw [c3b0] | (simp only [i64_w, i32_w]; rw [c3b0]) | skip)
   have H' := Aside0.mk H
   clear H
   go_wp2
   go_meet
   case rel => exact ⟨_, (decide ((a0.size : Int) > 12)), tS_, H', ⟨by first | omega | exact Nat.le_refl _⟩, by repeat (first | exact Drawn0.refl _ | apply Drawn0.step)⟩
 case rest =>
  clear HC2
  try clear c3
  obtain ⟨kq, x11_1, rfl, HA, HJ1, ⟨mc1, rfl⟩⟩ := hcut
  cases kq with
  | zero => exact absurd HA.out (by simp [hinterlandref10_Named.j0])
  | succ kj1 =>
   have H := HA.out
   clear HA
   simp only [hinterlandref10_Named.j0] at H
   by_cases c4 : x11_1 = true
   ·subst c4
    have H1 : (some false) = some r := by rw [if_pos rfl] at H; exact H
    clear H
    have H := H1
    clear H1
    obtain rfl := Option.some.inj H
    go_wp2
    go_ret
    exact ⟨tS_, by repeat (first | exact Drawn0.refl _ | apply Drawn0.step)⟩
   ·replace c4 := Bool.eq_false_iff.mpr c4
    subst c4
    have H1 : (hinterlandref10_Named.l0 kj1 a0 0) = some r := by rw [if_neg (show ¬ (false = true) by decide)] at H; exact H
    clear H
    have H := H1
    clear H1
    have H' := Aside0.mk H
    clear H
    go_wp2
    go_loopg [3] kj1 (fun kq v3 w' => ∃ (x3_2 : Int), v3 = .int .i64 x3_2 ∧ Aside0 (hinterlandref10_Named.l0 kq a0 x3_2 = some r) ∧ Aside0 (kq ≤ kj1) ∧ Drawn0 w w')
    case atStart => exact ⟨(0), tS_, H', ⟨Nat.le_refl _⟩, by repeat (first | exact Drawn0.refl _ | apply Drawn0.step)⟩
    case round =>
     clear H'
     try clear c3
     try clear c4
     obtain ⟨x3_2, rfl, HA, HK2, ⟨m2, rfl⟩⟩ := hrel
     cases gk with
     | zero => exact absurd HA.out (by simp [hinterlandref10_Named.l0])
     | succ k2 =>
      have H := HA.out
      clear HA
      simp only [hinterlandref10_Named.l0] at H
      by_cases c5 : x3_2 < (a0.size : Int)
      ·rw [if_pos c5] at H
       have c5b0 : decide (x3_2 < (a0.size : Int)) = true := decide_eq_true c5
       clear c5
       have HC6 := Aside0.mk H
       clear H
       go_upto_region 6 with (fail)
       go_cut [27] (fun v27 wc => ∃ (kq : Nat) (x27_5 : Bool), v27 = .bool x27_5 ∧ Aside0 (hinterlandref10_Named.j2 kq a0 x3_2 x27_5 = some r) ∧ Aside0 (kq ≤ k2) ∧ Drawn0 w wc)
       case first =>
        have H := HC6.out
        clear HC6
        by_cases c7 : 0 ≤ x3_2
        ·rw [if_pos c7] at H
         have c7b0 : decide (0 ≤ x3_2) = true := decide_eq_true c7
         clear c7
         (first | rw [c7b0] | (simp only [i64_w, i32_w]; rw [c7b0]) | skip)
         by_cases c9 : (bt a0 x3_2) < 97
         ·rw [if_pos c9] at H
          have c9b0 : decide ((bt a0 x3_2) < 97) = true := decide_eq_true c9
          clear c9
          have H' := Aside0.mk H
          clear H
          have p8 : 0 ≤ (x3_2 : Int) := of_decide_eq_true tW_
          have q8 : x3_2 < (a0.size : Int) := of_decide_eq_true tW_
          have hx8 := bt_at a0 x3_2
          replace p8 := eq_true p8
          replace q8 := eq_true q8
          go_wp2
          go_meet
          case rel => exact ⟨_, (true), tS_, H', ⟨by have := HJ1.out; have := HK2.out; first | omega | exact Nat.le_refl _⟩, by repeat (first | exact Drawn0.refl _ | apply Drawn0.step)⟩
         ·rw [if_neg c9] at H
          have c9b0 : decide ((bt a0 x3_2) < 97) = false := decide_eq_false c9
          clear c9
          have H' := Aside0.mk H
          clear H
          have p8 : 0 ≤ (x3_2 : Int) := of_decide_eq_true tW_
          have q8 : x3_2 < (a0.size : Int) := of_decide_eq_true tW_
          have hx8 := bt_at a0 x3_2
          replace p8 := eq_true p8
          replace q8 := eq_true q8
          have p10 : 0 ≤ (x3_2 : Int) := of_decide_eq_true tW_
          have q10 : x3_2 < (a0.size : Int) := of_decide_eq_true tW_
          have hx10 := bt_at a0 x3_2
          replace p10 := eq_true p10
          replace q10 := eq_true q10
          go_wp2
          go_meet
          case rel => exact ⟨_, (decide ((bt a0 x3_2) > 122)), tS_, H', ⟨by have := HJ1.out; have := HK2.out; first | omega | exact Nat.le_refl _⟩, by repeat (first | exact Drawn0.refl _ | apply Drawn0.step)⟩
        ·rw [if_neg c7] at H
         exact absurd H (by simp)
       case rest =>
        clear HC6
        try clear c3
        try clear c4
        try clear c5
        try clear c5b0
        try clear c7
        try clear c9
        obtain ⟨kq, x27_5, rfl, HA, HJ5, ⟨mc5, rfl⟩⟩ := hcut
        cases kq with
        | zero => exact absurd HA.out (by simp [hinterlandref10_Named.j2])
        | succ kj5 =>
         have H := HA.out
         clear HA
         simp only [hinterlandref10_Named.j2] at H
         by_cases c11 : x27_5 = true
         ·subst c11
          have H1 : (some false) = some r := by rw [if_pos rfl] at H; exact H
          clear H
          have H := H1
          clear H1
          obtain rfl := Option.some.inj H
          go_wp2
          go_ret
          exact ⟨tS_, by repeat (first | exact Drawn0.refl _ | apply Drawn0.step)⟩
         ·replace c11 := Bool.eq_false_iff.mpr c11
          subst c11
          have H1 : (hinterlandref10_Named.l0 kj5 a0 (wrap64 (x3_2 + 1))) = some r := by rw [if_neg (show ¬ (false = true) by decide)] at H; exact H
          clear H
          have H := H1
          clear H1
          have H' := Aside0.mk H
          clear H
          go_wp2
          go_roundg kj5
          case measure => have := HJ1.out; have := HK2.out; have := HJ5.out; omega
          case rel => exact ⟨(wrap64 (x3_2 + 1)), tS_, H', ⟨by have := HJ1.out; have := HK2.out; have := HJ5.out; omega⟩, by repeat (first | exact Drawn0.refl _ | apply Drawn0.step)⟩
      ·rw [if_neg c5] at H
       have c5b0 : decide (x3_2 < (a0.size : Int)) = false := decide_eq_false c5
       clear c5
       obtain rfl := Option.some.inj H
       go_wp2
       go_ret
       exact ⟨tS_, by repeat (first | exact Drawn0.refl _ | apply Drawn0.step)⟩

end Go.Proofs.Ytgnahbjpockdmaa.Q
