-- PRINTED by print.py out of the translation. Not trusted: Lean checks it.
import Derived.Test.YtgnahbjpockdmaaPrs
import Derived.Test.YtgnahbjpockdmaaQ0
import Derived.Test.YtgnahbjpockdmaaQ11
namespace Go.Proofs.Ytgnahbjpockdmaa.Q
open Go.RowKit Go.Proofs.YtgnahbjpockdmaaPrs Go.Proofs.YtgnahbjpockdmaaOwn Go.Proofs.YtgnahbjpockdmaaW.PrintWords Go.Proofs.YtgnahbjpockdmaaW.PrintLast Go.Proofs.YtgnahbjpockdmaaW.PrintMore
attribute [local go_sem] max2_int min2_int max_two min_two max_three min_three max_four min_four   -- for this text's walks alone
set_option linter.unusedVariables false
set_option linter.unusedSimpArgs false

/-! ### hinterlandlaw14_known: function 16 -/
def hinterlandlaw14_known.f (k : Nat)  : Option (Bool) := (fleet_Speed.f k 600 2000 80 200 0 0 0 false 0 0 600 0).bind fun bt200 => ((fleet_Facts.f k (([(⟨(⟨#[97]⟩ : ByteArray), 0, 0, 5, 3, 0, 0, 0, 8, 0, 0, 1, 0, false⟩ : S54)] : List (S54))) (([0] : List Int))).bind fun bt208 => (if bt200.2 = 0 then (if bt200.1 = 8 then (if bt208.2.2.2.2.2.2.2.2 = 0 then (if bt208.1 = 600 then (if bt208.2.2.1 = 3 then (some (bt208.2.2.2.2.1 == 8)) else (some false)) else (some false)) else (some false)) else (some false)) else (some false)))
theorem hinterlandlaw14_known.mono : ∀ k, LeO (hinterlandlaw14_known.f k ) (hinterlandlaw14_known.f (k + 1) ) := by
  intro  k
  unfold hinterlandlaw14_known.f
  repeat' first
      | (with_reducible first | exact fleet_Facts.mono _ _ _ | exact fleet_Speed.mono _ _ _ _ _ _ _ _ _ _ _ _ _ | exact LeO.refl _ | exact LeO.none _ | refine LeO.ite ?_ ?_ | refine LeO.bind ?_ (fun _ => ?_))
      | exact fleet_Facts.mono _ _ _
      | exact fleet_Speed.mono _ _ _ _ _ _ _ _ _ _ _ _ _
      | exact LeO.none _
      | refine LeO.ite ?_ ?_
      | refine LeO.bind ?_ (fun _ => ?_)
set_option maxHeartbeats 8000000 in
set_option maxRecDepth 100000 in
theorem hinterlandlaw14_known.calls (k : Nat)  (r : Bool) (w : World) (h : hinterlandlaw14_known.f k  = some r) :
    Calls Try.prog 16 #[] w fun e w' => e = .returned (.bool r) ∧ Below w.heap.size w w' := by
 have hu33 := Try.underlying33
 have hu54 := Try.underlying54
 have HB := Aside0.mk (Below.refl w.heap.size w)
 have H : ((fleet_Speed.f k 600 2000 80 200 0 0 0 false 0 0 600 0).bind fun bt200 => ((fleet_Facts.f k (([(⟨(⟨#[97]⟩ : ByteArray), 0, 0, 5, 3, 0, 0, 0, 8, 0, 0, 1, 0, false⟩ : S54)] : List (S54))) (([0] : List Int))).bind fun bt208 => (if bt200.2 = 0 then (if bt200.1 = 8 then (if bt208.2.2.2.2.2.2.2.2 = 0 then (if bt208.1 = 600 then (if bt208.2.2.1 = 3 then (some (bt208.2.2.2.2.1 == 8)) else (some false)) else (some false)) else (some false)) else (some false)) else (some false)))) = some r := h
 clear h
 replace H := Option.bind_eq_some_iff.mp H
 obtain ⟨⟨t200, t201⟩, A10, H⟩ := H
 replace H : ((fleet_Facts.f k (([(⟨(⟨#[97]⟩ : ByteArray), 0, 0, 5, 3, 0, 0, 0, 8, 0, 0, 1, 0, false⟩ : S54)] : List (S54))) (([0] : List Int))).bind fun bt208 => (if t201 = 0 then (if t200 = 8 then (if bt208.2.2.2.2.2.2.2.2 = 0 then (if bt208.1 = 600 then (if bt208.2.2.1 = 3 then (some (bt208.2.2.2.2.1 == 8)) else (some false)) else (some false)) else (some false)) else (some false)) else (some false))) = some r := H
 have A1 := Aside0.mk A10
 clear A10
 obtain ⟨y202, hy202⟩ : ∃ y_ : List (S54), y_ = (([(⟨(⟨#[97]⟩ : ByteArray), 0, 0, 5, 3, 0, 0, 0, 8, 0, 0, 1, 0, false⟩ : S54)] : List (S54))) := ⟨_, rfl⟩
 replace H : ((fleet_Facts.f k y202 (([0] : List Int))).bind fun bt208 => (if t201 = 0 then (if t200 = 8 then (if bt208.2.2.2.2.2.2.2.2 = 0 then (if bt208.1 = 600 then (if bt208.2.2.1 = 3 then (some (bt208.2.2.2.2.1 == 8)) else (some false)) else (some false)) else (some false)) else (some false)) else (some false))) = some r := by first | (rw [hy202]; with_reducible exact H) | (have H2_ := (Option.bind_some _ _).symm.trans H; rw [hy202]; with_reducible exact H2_) | (have H2_ := (Option.bind_some _ _).symm.trans H; with_reducible exact H2_) | with_reducible exact H | (rw [hy202]; exact H) | exact H
 have Ny202 := Aside0.mk hy202
 clear hy202
 obtain ⟨y205, hy205⟩ : ∃ y_ : List Int, y_ = (([0] : List Int)) := ⟨_, rfl⟩
 replace H : ((fleet_Facts.f k y202 y205).bind fun bt208 => (if t201 = 0 then (if t200 = 8 then (if bt208.2.2.2.2.2.2.2.2 = 0 then (if bt208.1 = 600 then (if bt208.2.2.1 = 3 then (some (bt208.2.2.2.2.1 == 8)) else (some false)) else (some false)) else (some false)) else (some false)) else (some false))) = some r := by first | (rw [hy205]; with_reducible exact H) | (have H2_ := (Option.bind_some _ _).symm.trans H; rw [hy205]; with_reducible exact H2_) | (have H2_ := (Option.bind_some _ _).symm.trans H; with_reducible exact H2_) | with_reducible exact H | (rw [hy205]; exact H) | exact H
 have Ny205 := Aside0.mk hy205
 clear hy205
 replace H := Option.bind_eq_some_iff.mp H
 obtain ⟨⟨t208, t209, t210, t211, t212, t213, t214, t215, t216⟩, A20, H⟩ := H
 replace H : (if t201 = 0 then (if t200 = 8 then (if t216 = 0 then (if t208 = 600 then (if t210 = 3 then (some (t212 == 8)) else (some false)) else (some false)) else (some false)) else (some false)) else (some false)) = some r := H
 have A2 := Aside0.mk A20
 clear A20
 by_cases c3 : t201 = 0
 ·rw [if_pos c3] at H
  have c3b0 : (t201 == 0) = true := beq_iff_eq.mpr c3
  have c3b1 : (t201 != 0) = false := bne_eq_false_iff_eq.mpr c3
  clear c3
  by_cases c4 : t200 = 8
  ·rw [if_pos c4] at H
   have c4b0 : (t200 == 8) = true := beq_iff_eq.mpr c4
   have c4b1 : (t200 != 8) = false := bne_eq_false_iff_eq.mpr c4
   clear c4
   by_cases c5 : t216 = 0
   ·rw [if_pos c5] at H
    have c5b0 : (t216 == 0) = true := beq_iff_eq.mpr c5
    have c5b1 : (t216 != 0) = false := bne_eq_false_iff_eq.mpr c5
    clear c5
    by_cases c6 : t208 = 600
    ·rw [if_pos c6] at H
     have c6b0 : (t208 == 600) = true := beq_iff_eq.mpr c6
     have c6b1 : (t208 != 600) = false := bne_eq_false_iff_eq.mpr c6
     clear c6
     by_cases c7 : t210 = 3
     ·rw [if_pos c7] at H
      have c7b0 : (t210 == 3) = true := beq_iff_eq.mpr c7
      have c7b1 : (t210 != 3) = false := bne_eq_false_iff_eq.mpr c7
      clear c7
      obtain rfl := Option.some.inj H
      go_enter Try.func16, Try.ntmps16
      go_wp2_with (first | ((with_reducible refine gate_callee (f := 21) rfl ?_); refine goesL_ (some 7) rfl rfl Try.func21 (by kernel_rfl) rfl #[.agg #[.int .i64 600, .int .i64 2000, .int .i64 80, .int .i64 200, .int .i64 0, .int .i64 0, .int .i64 0, .bool false], .int .i64 0, .int .i64 0, .int .i64 600, .int .i64 0] rfl tA_ ?_; (with_reducible refine (fleet_Speed.calls k 600 2000 80 200 0 0 0 false 0 0 600 0 t200 t201 _ A1.out).mono ?_); rintro e w8 ⟨rfl, hb⟩; refine ⟨_, rfl, ?_⟩; replace HB := Aside0.mk (below_step (dL_ HB) hb)) | ((with_reducible refine gate_dst (N := 12) rfl ?_); refine Kd.R_lit k54 _ 54 ?hg (N := 12) ?hd (xs := ([(⟨(⟨#[97]⟩ : ByteArray), 0, 0, 5, 3, 0, 0, 0, 8, 0, 0, 1, 0, false⟩ : S54)] : List (S54))) (inner := [.string (⟨#[97]⟩ : ByteArray), .int .i64 0, .int .i64 0, .int .i64 5, .int .i64 3, .int .i64 0, .int .i64 0, .int .i64 0, .int .i64 8, .int .i64 0, .int .i64 0, .int .i64 1, .int .i64 0, .bool false]) (ok := fun _ => True) (okp := fun _ => True) ?hr ?hp (fun _ hk => hk) trivial (Below.refl _ _) (Nat.le_refl _) (by simp) ?_; (case hd => rfl); (case hg => rfl); (case hr => first | (go_simp; done) | (go_simp; rfl)); (case hp => exact (Reps.front (show Kd.M k54 _ _ _ (⟨(⟨#[97]⟩ : ByteArray), 0, 0, 5, 3, 0, 0, 0, 8, 0, 0, 1, 0, false⟩ : S54) [.string (⟨#[97]⟩ : ByteArray), .int .i64 0, .int .i64 0, .int .i64 5, .int .i64 3, .int .i64 0, .int .i64 0, .int .i64 0, .int .i64 8, .int .i64 0, .int .i64 0, .int .i64 1, .int .i64 0, .bool false] from (k54_mkM _ _ _ (⟨(⟨#[97]⟩ : ByteArray), 0, 0, 5, 3, 0, 0, 0, 8, 0, 0, 1, 0, false⟩ : S54) )) rfl (Reps.none _ _) rfl)); intro v203 w9 ho10 hb hg_ hnew_; clear hg_ hnew_; (first | rw [← Ny202.out] at ho10 | (simp only [Int.reduceToNat] at ho10; rw [← Ny202.out] at ho10)); have HO204 := Aside0.mk (Kd.R_lower ho10 (below_size (dL_ HB))); replace HB := Aside0.mk (below_step (dL_ HB) hb); clear hb ho10) | ((with_reducible refine gate_dst (N := 13) rfl ?_); refine Kd.R_lit (Kd.int .i64) _ 3 ?hg (N := 13) ?hd (xs := ([0] : List Int)) (inner := [.int .i64 0]) (ok := fun _ => True) (okp := fun _ => True) ?hr ?hp (fun _ hk => hk) trivial (Below.refl _ _) (Nat.le_refl _) (by simp) ?_; (case hd => rfl); (case hg => rfl); (case hr => first | (go_simp; done) | (go_simp; rfl)); (case hp => exact (Reps.one (show Kd.M (Kd.int .i64) _ _ _ 0 [.int .i64 0] from rfl) (Reps.none _ _))); intro v206 w11 ho12 hb hg_ hnew_; clear hg_ hnew_; (first | rw [← Ny205.out] at ho12 | (simp only [Int.reduceToNat] at ho12; rw [← Ny205.out] at ho12)); replace HO204 := Aside0.mk (Kd.R_below (dR_ HO204) hb); have HO207 := Aside0.mk (Kd.R_lower ho12 (below_size (dL_ HB))); replace HB := Aside0.mk (below_step (dL_ HB) hb); clear hb ho12; obtain ⟨Ao13, co13, eo13⟩ := Kd.R_slice HO204.out; subst eo13; obtain ⟨Ao14, co14, eo14⟩ := Kd.R_slice HO207.out; subst eo14) | ((with_reducible refine gate_callee (f := 19) rfl ?_); refine goesL_ (some 14) rfl rfl Try.func19 (by kernel_rfl) rfl #[.slice Ao13 y202.length co13, .slice Ao14 y205.length co14] rfl tA_ ?_; (with_reducible refine (fleet_Facts.calls k _ _ y202 _ _ y205 t208 t209 t210 t211 t212 t213 t214 t215 t216 _ ?side1 ?side2 ?side3 ?side4 A2.out).mono ?_); (case side1 => repeat (first | exact (Kd.R_reads' HO204.out).2.2 | (with_reducible refine Kd.C_alloc ?_ _) | (with_reducible refine Kd.C_drewN ?_ _) | (with_reducible refine Kd.C_drew ?_))); (case side2 => exact (Kd.R_reads' HO204.out).2.1); (case side3 => repeat (first | exact (Kd.R_reads' HO207.out).2.2 | (with_reducible refine Kd.C_alloc ?_ _) | (with_reducible refine Kd.C_drewN ?_ _) | (with_reducible refine Kd.C_drew ?_))); (case side4 => exact (Kd.R_reads' HO207.out).2.1); rintro e w15 ⟨rfl, hb⟩; refine ⟨_, rfl, ?_⟩; replace HO204 := Aside0.mk (Kd.R_below (dR_ HO204) hb); replace HO207 := Aside0.mk (Kd.R_below (dR_ HO207) hb); replace HB := Aside0.mk (below_step (dL_ HB) hb)) | ((with_reducible refine gate_dst (N := 3) rfl ?_); refine box_event ?hg (N := 3) ?hd (cs := #[.int .i64 0, .int .i64 0, .int .i64 0, .int .i64 0, .int .i64 0, .int .i64 0, .int .i64 0, .bool false]) (t := 33) ?hr ?_; (case hd => rfl); (case hg => rfl); (case hr => first | (go_simp; done) | (go_simp; rfl)); intro gb217 hg w16 hbox hb; replace HO204 := Aside0.mk (Kd.R_below (dR_ HO204) hb); replace HO207 := Aside0.mk (Kd.R_below (dR_ HO207) hb); have BK217 := Aside0.mk (hbox); have GW217 := Aside0.mk ((dS_ hg (dL_ HB) : w.heap.size ≤ gb217)); have GE217 := Aside0.mk ((dS_ hg (dL_ HB) : w.heap.size ≤ gb217)); replace HB := Aside0.mk (below_step (dL_ HB) hb); clear hb hbox hg; obtain ⟨hcz17_0, hcz17_1, hcz17_2, hcz17_3, hcz17_4, hcz17_5, hcz17_6, hcz17_7, hfz17_0, hfz17_1, hfz17_2, hfz17_3, hfz17_4, hfz17_5, hfz17_6, hfz17_7⟩ := cs8_ BK217.out))
      go_ret
      exact ⟨tE_, dL1_ HB GE217⟩
     ·rw [if_neg c7] at H
      have c7b0 : (t210 == 3) = false := beq_eq_false_iff_ne.mpr c7
      have c7b1 : (t210 != 3) = true := bne_iff_ne.mpr c7
      obtain rfl := Option.some.inj H
      go_enter Try.func16, Try.ntmps16
      go_wp2_with (first | ((with_reducible refine gate_callee (f := 21) rfl ?_); refine goesL_ (some 7) rfl rfl Try.func21 (by kernel_rfl) rfl #[.agg #[.int .i64 600, .int .i64 2000, .int .i64 80, .int .i64 200, .int .i64 0, .int .i64 0, .int .i64 0, .bool false], .int .i64 0, .int .i64 0, .int .i64 600, .int .i64 0] rfl tA_ ?_; (with_reducible refine (fleet_Speed.calls k 600 2000 80 200 0 0 0 false 0 0 600 0 t200 t201 _ A1.out).mono ?_); rintro e w18 ⟨rfl, hb⟩; refine ⟨_, rfl, ?_⟩; replace HB := Aside0.mk (below_step (dL_ HB) hb)) | ((with_reducible refine gate_dst (N := 12) rfl ?_); refine Kd.R_lit k54 _ 54 ?hg (N := 12) ?hd (xs := ([(⟨(⟨#[97]⟩ : ByteArray), 0, 0, 5, 3, 0, 0, 0, 8, 0, 0, 1, 0, false⟩ : S54)] : List (S54))) (inner := [.string (⟨#[97]⟩ : ByteArray), .int .i64 0, .int .i64 0, .int .i64 5, .int .i64 3, .int .i64 0, .int .i64 0, .int .i64 0, .int .i64 8, .int .i64 0, .int .i64 0, .int .i64 1, .int .i64 0, .bool false]) (ok := fun _ => True) (okp := fun _ => True) ?hr ?hp (fun _ hk => hk) trivial (Below.refl _ _) (Nat.le_refl _) (by simp) ?_; (case hd => rfl); (case hg => rfl); (case hr => first | (go_simp; done) | (go_simp; rfl)); (case hp => exact (Reps.front (show Kd.M k54 _ _ _ (⟨(⟨#[97]⟩ : ByteArray), 0, 0, 5, 3, 0, 0, 0, 8, 0, 0, 1, 0, false⟩ : S54) [.string (⟨#[97]⟩ : ByteArray), .int .i64 0, .int .i64 0, .int .i64 5, .int .i64 3, .int .i64 0, .int .i64 0, .int .i64 0, .int .i64 8, .int .i64 0, .int .i64 0, .int .i64 1, .int .i64 0, .bool false] from (k54_mkM _ _ _ (⟨(⟨#[97]⟩ : ByteArray), 0, 0, 5, 3, 0, 0, 0, 8, 0, 0, 1, 0, false⟩ : S54) )) rfl (Reps.none _ _) rfl)); intro v203 w19 ho20 hb hg_ hnew_; clear hg_ hnew_; (first | rw [← Ny202.out] at ho20 | (simp only [Int.reduceToNat] at ho20; rw [← Ny202.out] at ho20)); have HO204 := Aside0.mk (Kd.R_lower ho20 (below_size (dL_ HB))); replace HB := Aside0.mk (below_step (dL_ HB) hb); clear hb ho20) | ((with_reducible refine gate_dst (N := 13) rfl ?_); refine Kd.R_lit (Kd.int .i64) _ 3 ?hg (N := 13) ?hd (xs := ([0] : List Int)) (inner := [.int .i64 0]) (ok := fun _ => True) (okp := fun _ => True) ?hr ?hp (fun _ hk => hk) trivial (Below.refl _ _) (Nat.le_refl _) (by simp) ?_; (case hd => rfl); (case hg => rfl); (case hr => first | (go_simp; done) | (go_simp; rfl)); (case hp => exact (Reps.one (show Kd.M (Kd.int .i64) _ _ _ 0 [.int .i64 0] from rfl) (Reps.none _ _))); intro v206 w21 ho22 hb hg_ hnew_; clear hg_ hnew_; (first | rw [← Ny205.out] at ho22 | (simp only [Int.reduceToNat] at ho22; rw [← Ny205.out] at ho22)); replace HO204 := Aside0.mk (Kd.R_below (dR_ HO204) hb); have HO207 := Aside0.mk (Kd.R_lower ho22 (below_size (dL_ HB))); replace HB := Aside0.mk (below_step (dL_ HB) hb); clear hb ho22; obtain ⟨Ao23, co23, eo23⟩ := Kd.R_slice HO204.out; subst eo23; obtain ⟨Ao24, co24, eo24⟩ := Kd.R_slice HO207.out; subst eo24) | ((with_reducible refine gate_callee (f := 19) rfl ?_); refine goesL_ (some 14) rfl rfl Try.func19 (by kernel_rfl) rfl #[.slice Ao23 y202.length co23, .slice Ao24 y205.length co24] rfl tA_ ?_; (with_reducible refine (fleet_Facts.calls k _ _ y202 _ _ y205 t208 t209 t210 t211 t212 t213 t214 t215 t216 _ ?side1 ?side2 ?side3 ?side4 A2.out).mono ?_); (case side1 => repeat (first | exact (Kd.R_reads' HO204.out).2.2 | (with_reducible refine Kd.C_alloc ?_ _) | (with_reducible refine Kd.C_drewN ?_ _) | (with_reducible refine Kd.C_drew ?_))); (case side2 => exact (Kd.R_reads' HO204.out).2.1); (case side3 => repeat (first | exact (Kd.R_reads' HO207.out).2.2 | (with_reducible refine Kd.C_alloc ?_ _) | (with_reducible refine Kd.C_drewN ?_ _) | (with_reducible refine Kd.C_drew ?_))); (case side4 => exact (Kd.R_reads' HO207.out).2.1); rintro e w25 ⟨rfl, hb⟩; refine ⟨_, rfl, ?_⟩; replace HO204 := Aside0.mk (Kd.R_below (dR_ HO204) hb); replace HO207 := Aside0.mk (Kd.R_below (dR_ HO207) hb); replace HB := Aside0.mk (below_step (dL_ HB) hb)) | ((with_reducible refine gate_dst (N := 3) rfl ?_); refine box_event ?hg (N := 3) ?hd (cs := #[.int .i64 0, .int .i64 0, .int .i64 0, .int .i64 0, .int .i64 0, .int .i64 0, .int .i64 0, .bool false]) (t := 33) ?hr ?_; (case hd => rfl); (case hg => rfl); (case hr => first | (go_simp; done) | (go_simp; rfl)); intro gb217 hg w26 hbox hb; replace HO204 := Aside0.mk (Kd.R_below (dR_ HO204) hb); replace HO207 := Aside0.mk (Kd.R_below (dR_ HO207) hb); have BK217 := Aside0.mk (hbox); have GW217 := Aside0.mk ((dS_ hg (dL_ HB) : w.heap.size ≤ gb217)); have GE217 := Aside0.mk ((dS_ hg (dL_ HB) : w.heap.size ≤ gb217)); replace HB := Aside0.mk (below_step (dL_ HB) hb); clear hb hbox hg; obtain ⟨hcz27_0, hcz27_1, hcz27_2, hcz27_3, hcz27_4, hcz27_5, hcz27_6, hcz27_7, hfz27_0, hfz27_1, hfz27_2, hfz27_3, hfz27_4, hfz27_5, hfz27_6, hfz27_7⟩ := cs8_ BK217.out))
      go_ret
      exact ⟨tE_, dL1_ HB GE217⟩
    ·rw [if_neg c6] at H
     have c6b0 : (t208 == 600) = false := beq_eq_false_iff_ne.mpr c6
     have c6b1 : (t208 != 600) = true := bne_iff_ne.mpr c6
     obtain rfl := Option.some.inj H
     go_enter Try.func16, Try.ntmps16
     go_wp2_with (first | ((with_reducible refine gate_callee (f := 21) rfl ?_); refine goesL_ (some 7) rfl rfl Try.func21 (by kernel_rfl) rfl #[.agg #[.int .i64 600, .int .i64 2000, .int .i64 80, .int .i64 200, .int .i64 0, .int .i64 0, .int .i64 0, .bool false], .int .i64 0, .int .i64 0, .int .i64 600, .int .i64 0] rfl tA_ ?_; (with_reducible refine (fleet_Speed.calls k 600 2000 80 200 0 0 0 false 0 0 600 0 t200 t201 _ A1.out).mono ?_); rintro e w28 ⟨rfl, hb⟩; refine ⟨_, rfl, ?_⟩; replace HB := Aside0.mk (below_step (dL_ HB) hb)) | ((with_reducible refine gate_dst (N := 12) rfl ?_); refine Kd.R_lit k54 _ 54 ?hg (N := 12) ?hd (xs := ([(⟨(⟨#[97]⟩ : ByteArray), 0, 0, 5, 3, 0, 0, 0, 8, 0, 0, 1, 0, false⟩ : S54)] : List (S54))) (inner := [.string (⟨#[97]⟩ : ByteArray), .int .i64 0, .int .i64 0, .int .i64 5, .int .i64 3, .int .i64 0, .int .i64 0, .int .i64 0, .int .i64 8, .int .i64 0, .int .i64 0, .int .i64 1, .int .i64 0, .bool false]) (ok := fun _ => True) (okp := fun _ => True) ?hr ?hp (fun _ hk => hk) trivial (Below.refl _ _) (Nat.le_refl _) (by simp) ?_; (case hd => rfl); (case hg => rfl); (case hr => first | (go_simp; done) | (go_simp; rfl)); (case hp => exact (Reps.front (show Kd.M k54 _ _ _ (⟨(⟨#[97]⟩ : ByteArray), 0, 0, 5, 3, 0, 0, 0, 8, 0, 0, 1, 0, false⟩ : S54) [.string (⟨#[97]⟩ : ByteArray), .int .i64 0, .int .i64 0, .int .i64 5, .int .i64 3, .int .i64 0, .int .i64 0, .int .i64 0, .int .i64 8, .int .i64 0, .int .i64 0, .int .i64 1, .int .i64 0, .bool false] from (k54_mkM _ _ _ (⟨(⟨#[97]⟩ : ByteArray), 0, 0, 5, 3, 0, 0, 0, 8, 0, 0, 1, 0, false⟩ : S54) )) rfl (Reps.none _ _) rfl)); intro v203 w29 ho30 hb hg_ hnew_; clear hg_ hnew_; (first | rw [← Ny202.out] at ho30 | (simp only [Int.reduceToNat] at ho30; rw [← Ny202.out] at ho30)); have HO204 := Aside0.mk (Kd.R_lower ho30 (below_size (dL_ HB))); replace HB := Aside0.mk (below_step (dL_ HB) hb); clear hb ho30) | ((with_reducible refine gate_dst (N := 13) rfl ?_); refine Kd.R_lit (Kd.int .i64) _ 3 ?hg (N := 13) ?hd (xs := ([0] : List Int)) (inner := [.int .i64 0]) (ok := fun _ => True) (okp := fun _ => True) ?hr ?hp (fun _ hk => hk) trivial (Below.refl _ _) (Nat.le_refl _) (by simp) ?_; (case hd => rfl); (case hg => rfl); (case hr => first | (go_simp; done) | (go_simp; rfl)); (case hp => exact (Reps.one (show Kd.M (Kd.int .i64) _ _ _ 0 [.int .i64 0] from rfl) (Reps.none _ _))); intro v206 w31 ho32 hb hg_ hnew_; clear hg_ hnew_; (first | rw [← Ny205.out] at ho32 | (simp only [Int.reduceToNat] at ho32; rw [← Ny205.out] at ho32)); replace HO204 := Aside0.mk (Kd.R_below (dR_ HO204) hb); have HO207 := Aside0.mk (Kd.R_lower ho32 (below_size (dL_ HB))); replace HB := Aside0.mk (below_step (dL_ HB) hb); clear hb ho32; obtain ⟨Ao33, co33, eo33⟩ := Kd.R_slice HO204.out; subst eo33; obtain ⟨Ao34, co34, eo34⟩ := Kd.R_slice HO207.out; subst eo34) | ((with_reducible refine gate_callee (f := 19) rfl ?_); refine goesL_ (some 14) rfl rfl Try.func19 (by kernel_rfl) rfl #[.slice Ao33 y202.length co33, .slice Ao34 y205.length co34] rfl tA_ ?_; (with_reducible refine (fleet_Facts.calls k _ _ y202 _ _ y205 t208 t209 t210 t211 t212 t213 t214 t215 t216 _ ?side1 ?side2 ?side3 ?side4 A2.out).mono ?_); (case side1 => repeat (first | exact (Kd.R_reads' HO204.out).2.2 | (with_reducible refine Kd.C_alloc ?_ _) | (with_reducible refine Kd.C_drewN ?_ _) | (with_reducible refine Kd.C_drew ?_))); (case side2 => exact (Kd.R_reads' HO204.out).2.1); (case side3 => repeat (first | exact (Kd.R_reads' HO207.out).2.2 | (with_reducible refine Kd.C_alloc ?_ _) | (with_reducible refine Kd.C_drewN ?_ _) | (with_reducible refine Kd.C_drew ?_))); (case side4 => exact (Kd.R_reads' HO207.out).2.1); rintro e w35 ⟨rfl, hb⟩; refine ⟨_, rfl, ?_⟩; replace HO204 := Aside0.mk (Kd.R_below (dR_ HO204) hb); replace HO207 := Aside0.mk (Kd.R_below (dR_ HO207) hb); replace HB := Aside0.mk (below_step (dL_ HB) hb)) | ((with_reducible refine gate_dst (N := 3) rfl ?_); refine box_event ?hg (N := 3) ?hd (cs := #[.int .i64 0, .int .i64 0, .int .i64 0, .int .i64 0, .int .i64 0, .int .i64 0, .int .i64 0, .bool false]) (t := 33) ?hr ?_; (case hd => rfl); (case hg => rfl); (case hr => first | (go_simp; done) | (go_simp; rfl)); intro gb217 hg w36 hbox hb; replace HO204 := Aside0.mk (Kd.R_below (dR_ HO204) hb); replace HO207 := Aside0.mk (Kd.R_below (dR_ HO207) hb); have BK217 := Aside0.mk (hbox); have GW217 := Aside0.mk ((dS_ hg (dL_ HB) : w.heap.size ≤ gb217)); have GE217 := Aside0.mk ((dS_ hg (dL_ HB) : w.heap.size ≤ gb217)); replace HB := Aside0.mk (below_step (dL_ HB) hb); clear hb hbox hg; obtain ⟨hcz37_0, hcz37_1, hcz37_2, hcz37_3, hcz37_4, hcz37_5, hcz37_6, hcz37_7, hfz37_0, hfz37_1, hfz37_2, hfz37_3, hfz37_4, hfz37_5, hfz37_6, hfz37_7⟩ := cs8_ BK217.out))
     go_ret
     exact ⟨tE_, dL1_ HB GE217⟩
   ·rw [if_neg c5] at H
    have c5b0 : (t216 == 0) = false := beq_eq_false_iff_ne.mpr c5
    have c5b1 : (t216 != 0) = true := bne_iff_ne.mpr c5
    obtain rfl := Option.some.inj H
    go_enter Try.func16, Try.ntmps16
    go_wp2_with (first | ((with_reducible refine gate_callee (f := 21) rfl ?_); refine goesL_ (some 7) rfl rfl Try.func21 (by kernel_rfl) rfl #[.agg #[.int .i64 600, .int .i64 2000, .int .i64 80, .int .i64 200, .int .i64 0, .int .i64 0, .int .i64 0, .bool false], .int .i64 0, .int .i64 0, .int .i64 600, .int .i64 0] rfl tA_ ?_; (with_reducible refine (fleet_Speed.calls k 600 2000 80 200 0 0 0 false 0 0 600 0 t200 t201 _ A1.out).mono ?_); rintro e w38 ⟨rfl, hb⟩; refine ⟨_, rfl, ?_⟩; replace HB := Aside0.mk (below_step (dL_ HB) hb)) | ((with_reducible refine gate_dst (N := 12) rfl ?_); refine Kd.R_lit k54 _ 54 ?hg (N := 12) ?hd (xs := ([(⟨(⟨#[97]⟩ : ByteArray), 0, 0, 5, 3, 0, 0, 0, 8, 0, 0, 1, 0, false⟩ : S54)] : List (S54))) (inner := [.string (⟨#[97]⟩ : ByteArray), .int .i64 0, .int .i64 0, .int .i64 5, .int .i64 3, .int .i64 0, .int .i64 0, .int .i64 0, .int .i64 8, .int .i64 0, .int .i64 0, .int .i64 1, .int .i64 0, .bool false]) (ok := fun _ => True) (okp := fun _ => True) ?hr ?hp (fun _ hk => hk) trivial (Below.refl _ _) (Nat.le_refl _) (by simp) ?_; (case hd => rfl); (case hg => rfl); (case hr => first | (go_simp; done) | (go_simp; rfl)); (case hp => exact (Reps.front (show Kd.M k54 _ _ _ (⟨(⟨#[97]⟩ : ByteArray), 0, 0, 5, 3, 0, 0, 0, 8, 0, 0, 1, 0, false⟩ : S54) [.string (⟨#[97]⟩ : ByteArray), .int .i64 0, .int .i64 0, .int .i64 5, .int .i64 3, .int .i64 0, .int .i64 0, .int .i64 0, .int .i64 8, .int .i64 0, .int .i64 0, .int .i64 1, .int .i64 0, .bool false] from (k54_mkM _ _ _ (⟨(⟨#[97]⟩ : ByteArray), 0, 0, 5, 3, 0, 0, 0, 8, 0, 0, 1, 0, false⟩ : S54) )) rfl (Reps.none _ _) rfl)); intro v203 w39 ho40 hb hg_ hnew_; clear hg_ hnew_; (first | rw [← Ny202.out] at ho40 | (simp only [Int.reduceToNat] at ho40; rw [← Ny202.out] at ho40)); have HO204 := Aside0.mk (Kd.R_lower ho40 (below_size (dL_ HB))); replace HB := Aside0.mk (below_step (dL_ HB) hb); clear hb ho40) | ((with_reducible refine gate_dst (N := 13) rfl ?_); refine Kd.R_lit (Kd.int .i64) _ 3 ?hg (N := 13) ?hd (xs := ([0] : List Int)) (inner := [.int .i64 0]) (ok := fun _ => True) (okp := fun _ => True) ?hr ?hp (fun _ hk => hk) trivial (Below.refl _ _) (Nat.le_refl _) (by simp) ?_; (case hd => rfl); (case hg => rfl); (case hr => first | (go_simp; done) | (go_simp; rfl)); (case hp => exact (Reps.one (show Kd.M (Kd.int .i64) _ _ _ 0 [.int .i64 0] from rfl) (Reps.none _ _))); intro v206 w41 ho42 hb hg_ hnew_; clear hg_ hnew_; (first | rw [← Ny205.out] at ho42 | (simp only [Int.reduceToNat] at ho42; rw [← Ny205.out] at ho42)); replace HO204 := Aside0.mk (Kd.R_below (dR_ HO204) hb); have HO207 := Aside0.mk (Kd.R_lower ho42 (below_size (dL_ HB))); replace HB := Aside0.mk (below_step (dL_ HB) hb); clear hb ho42; obtain ⟨Ao43, co43, eo43⟩ := Kd.R_slice HO204.out; subst eo43; obtain ⟨Ao44, co44, eo44⟩ := Kd.R_slice HO207.out; subst eo44) | ((with_reducible refine gate_callee (f := 19) rfl ?_); refine goesL_ (some 14) rfl rfl Try.func19 (by kernel_rfl) rfl #[.slice Ao43 y202.length co43, .slice Ao44 y205.length co44] rfl tA_ ?_; (with_reducible refine (fleet_Facts.calls k _ _ y202 _ _ y205 t208 t209 t210 t211 t212 t213 t214 t215 t216 _ ?side1 ?side2 ?side3 ?side4 A2.out).mono ?_); (case side1 => repeat (first | exact (Kd.R_reads' HO204.out).2.2 | (with_reducible refine Kd.C_alloc ?_ _) | (with_reducible refine Kd.C_drewN ?_ _) | (with_reducible refine Kd.C_drew ?_))); (case side2 => exact (Kd.R_reads' HO204.out).2.1); (case side3 => repeat (first | exact (Kd.R_reads' HO207.out).2.2 | (with_reducible refine Kd.C_alloc ?_ _) | (with_reducible refine Kd.C_drewN ?_ _) | (with_reducible refine Kd.C_drew ?_))); (case side4 => exact (Kd.R_reads' HO207.out).2.1); rintro e w45 ⟨rfl, hb⟩; refine ⟨_, rfl, ?_⟩; replace HO204 := Aside0.mk (Kd.R_below (dR_ HO204) hb); replace HO207 := Aside0.mk (Kd.R_below (dR_ HO207) hb); replace HB := Aside0.mk (below_step (dL_ HB) hb)) | ((with_reducible refine gate_dst (N := 3) rfl ?_); refine box_event ?hg (N := 3) ?hd (cs := #[.int .i64 0, .int .i64 0, .int .i64 0, .int .i64 0, .int .i64 0, .int .i64 0, .int .i64 0, .bool false]) (t := 33) ?hr ?_; (case hd => rfl); (case hg => rfl); (case hr => first | (go_simp; done) | (go_simp; rfl)); intro gb217 hg w46 hbox hb; replace HO204 := Aside0.mk (Kd.R_below (dR_ HO204) hb); replace HO207 := Aside0.mk (Kd.R_below (dR_ HO207) hb); have BK217 := Aside0.mk (hbox); have GW217 := Aside0.mk ((dS_ hg (dL_ HB) : w.heap.size ≤ gb217)); have GE217 := Aside0.mk ((dS_ hg (dL_ HB) : w.heap.size ≤ gb217)); replace HB := Aside0.mk (below_step (dL_ HB) hb); clear hb hbox hg; obtain ⟨hcz47_0, hcz47_1, hcz47_2, hcz47_3, hcz47_4, hcz47_5, hcz47_6, hcz47_7, hfz47_0, hfz47_1, hfz47_2, hfz47_3, hfz47_4, hfz47_5, hfz47_6, hfz47_7⟩ := cs8_ BK217.out))
    go_ret
    exact ⟨tE_, dL1_ HB GE217⟩
  ·rw [if_neg c4] at H
   have c4b0 : (t200 == 8) = false := beq_eq_false_iff_ne.mpr c4
   have c4b1 : (t200 != 8) = true := bne_iff_ne.mpr c4
   obtain rfl := Option.some.inj H
   go_enter Try.func16, Try.ntmps16
   go_wp2_with (first | ((with_reducible refine gate_callee (f := 21) rfl ?_); refine goesL_ (some 7) rfl rfl Try.func21 (by kernel_rfl) rfl #[.agg #[.int .i64 600, .int .i64 2000, .int .i64 80, .int .i64 200, .int .i64 0, .int .i64 0, .int .i64 0, .bool false], .int .i64 0, .int .i64 0, .int .i64 600, .int .i64 0] rfl tA_ ?_; (with_reducible refine (fleet_Speed.calls k 600 2000 80 200 0 0 0 false 0 0 600 0 t200 t201 _ A1.out).mono ?_); rintro e w48 ⟨rfl, hb⟩; refine ⟨_, rfl, ?_⟩; replace HB := Aside0.mk (below_step (dL_ HB) hb)) | ((with_reducible refine gate_dst (N := 12) rfl ?_); refine Kd.R_lit k54 _ 54 ?hg (N := 12) ?hd (xs := ([(⟨(⟨#[97]⟩ : ByteArray), 0, 0, 5, 3, 0, 0, 0, 8, 0, 0, 1, 0, false⟩ : S54)] : List (S54))) (inner := [.string (⟨#[97]⟩ : ByteArray), .int .i64 0, .int .i64 0, .int .i64 5, .int .i64 3, .int .i64 0, .int .i64 0, .int .i64 0, .int .i64 8, .int .i64 0, .int .i64 0, .int .i64 1, .int .i64 0, .bool false]) (ok := fun _ => True) (okp := fun _ => True) ?hr ?hp (fun _ hk => hk) trivial (Below.refl _ _) (Nat.le_refl _) (by simp) ?_; (case hd => rfl); (case hg => rfl); (case hr => first | (go_simp; done) | (go_simp; rfl)); (case hp => exact (Reps.front (show Kd.M k54 _ _ _ (⟨(⟨#[97]⟩ : ByteArray), 0, 0, 5, 3, 0, 0, 0, 8, 0, 0, 1, 0, false⟩ : S54) [.string (⟨#[97]⟩ : ByteArray), .int .i64 0, .int .i64 0, .int .i64 5, .int .i64 3, .int .i64 0, .int .i64 0, .int .i64 0, .int .i64 8, .int .i64 0, .int .i64 0, .int .i64 1, .int .i64 0, .bool false] from (k54_mkM _ _ _ (⟨(⟨#[97]⟩ : ByteArray), 0, 0, 5, 3, 0, 0, 0, 8, 0, 0, 1, 0, false⟩ : S54) )) rfl (Reps.none _ _) rfl)); intro v203 w49 ho50 hb hg_ hnew_; clear hg_ hnew_; (first | rw [← Ny202.out] at ho50 | (simp only [Int.reduceToNat] at ho50; rw [← Ny202.out] at ho50)); have HO204 := Aside0.mk (Kd.R_lower ho50 (below_size (dL_ HB))); replace HB := Aside0.mk (below_step (dL_ HB) hb); clear hb ho50) | ((with_reducible refine gate_dst (N := 13) rfl ?_); refine Kd.R_lit (Kd.int .i64) _ 3 ?hg (N := 13) ?hd (xs := ([0] : List Int)) (inner := [.int .i64 0]) (ok := fun _ => True) (okp := fun _ => True) ?hr ?hp (fun _ hk => hk) trivial (Below.refl _ _) (Nat.le_refl _) (by simp) ?_; (case hd => rfl); (case hg => rfl); (case hr => first | (go_simp; done) | (go_simp; rfl)); (case hp => exact (Reps.one (show Kd.M (Kd.int .i64) _ _ _ 0 [.int .i64 0] from rfl) (Reps.none _ _))); intro v206 w51 ho52 hb hg_ hnew_; clear hg_ hnew_; (first | rw [← Ny205.out] at ho52 | (simp only [Int.reduceToNat] at ho52; rw [← Ny205.out] at ho52)); replace HO204 := Aside0.mk (Kd.R_below (dR_ HO204) hb); have HO207 := Aside0.mk (Kd.R_lower ho52 (below_size (dL_ HB))); replace HB := Aside0.mk (below_step (dL_ HB) hb); clear hb ho52; obtain ⟨Ao53, co53, eo53⟩ := Kd.R_slice HO204.out; subst eo53; obtain ⟨Ao54, co54, eo54⟩ := Kd.R_slice HO207.out; subst eo54) | ((with_reducible refine gate_callee (f := 19) rfl ?_); refine goesL_ (some 14) rfl rfl Try.func19 (by kernel_rfl) rfl #[.slice Ao53 y202.length co53, .slice Ao54 y205.length co54] rfl tA_ ?_; (with_reducible refine (fleet_Facts.calls k _ _ y202 _ _ y205 t208 t209 t210 t211 t212 t213 t214 t215 t216 _ ?side1 ?side2 ?side3 ?side4 A2.out).mono ?_); (case side1 => repeat (first | exact (Kd.R_reads' HO204.out).2.2 | (with_reducible refine Kd.C_alloc ?_ _) | (with_reducible refine Kd.C_drewN ?_ _) | (with_reducible refine Kd.C_drew ?_))); (case side2 => exact (Kd.R_reads' HO204.out).2.1); (case side3 => repeat (first | exact (Kd.R_reads' HO207.out).2.2 | (with_reducible refine Kd.C_alloc ?_ _) | (with_reducible refine Kd.C_drewN ?_ _) | (with_reducible refine Kd.C_drew ?_))); (case side4 => exact (Kd.R_reads' HO207.out).2.1); rintro e w55 ⟨rfl, hb⟩; refine ⟨_, rfl, ?_⟩; replace HO204 := Aside0.mk (Kd.R_below (dR_ HO204) hb); replace HO207 := Aside0.mk (Kd.R_below (dR_ HO207) hb); replace HB := Aside0.mk (below_step (dL_ HB) hb)) | ((with_reducible refine gate_dst (N := 3) rfl ?_); refine box_event ?hg (N := 3) ?hd (cs := #[.int .i64 0, .int .i64 0, .int .i64 0, .int .i64 0, .int .i64 0, .int .i64 0, .int .i64 0, .bool false]) (t := 33) ?hr ?_; (case hd => rfl); (case hg => rfl); (case hr => first | (go_simp; done) | (go_simp; rfl)); intro gb217 hg w56 hbox hb; replace HO204 := Aside0.mk (Kd.R_below (dR_ HO204) hb); replace HO207 := Aside0.mk (Kd.R_below (dR_ HO207) hb); have BK217 := Aside0.mk (hbox); have GW217 := Aside0.mk ((dS_ hg (dL_ HB) : w.heap.size ≤ gb217)); have GE217 := Aside0.mk ((dS_ hg (dL_ HB) : w.heap.size ≤ gb217)); replace HB := Aside0.mk (below_step (dL_ HB) hb); clear hb hbox hg; obtain ⟨hcz57_0, hcz57_1, hcz57_2, hcz57_3, hcz57_4, hcz57_5, hcz57_6, hcz57_7, hfz57_0, hfz57_1, hfz57_2, hfz57_3, hfz57_4, hfz57_5, hfz57_6, hfz57_7⟩ := cs8_ BK217.out))
   go_ret
   exact ⟨tE_, dL1_ HB GE217⟩
 ·rw [if_neg c3] at H
  have c3b0 : (t201 == 0) = false := beq_eq_false_iff_ne.mpr c3
  have c3b1 : (t201 != 0) = true := bne_iff_ne.mpr c3
  obtain rfl := Option.some.inj H
  go_enter Try.func16, Try.ntmps16
  go_wp2_with (first | ((with_reducible refine gate_callee (f := 21) rfl ?_); refine goesL_ (some 7) rfl rfl Try.func21 (by kernel_rfl) rfl #[.agg #[.int .i64 600, .int .i64 2000, .int .i64 80, .int .i64 200, .int .i64 0, .int .i64 0, .int .i64 0, .bool false], .int .i64 0, .int .i64 0, .int .i64 600, .int .i64 0] rfl tA_ ?_; (with_reducible refine (fleet_Speed.calls k 600 2000 80 200 0 0 0 false 0 0 600 0 t200 t201 _ A1.out).mono ?_); rintro e w58 ⟨rfl, hb⟩; refine ⟨_, rfl, ?_⟩; replace HB := Aside0.mk (below_step (dL_ HB) hb)) | ((with_reducible refine gate_dst (N := 12) rfl ?_); refine Kd.R_lit k54 _ 54 ?hg (N := 12) ?hd (xs := ([(⟨(⟨#[97]⟩ : ByteArray), 0, 0, 5, 3, 0, 0, 0, 8, 0, 0, 1, 0, false⟩ : S54)] : List (S54))) (inner := [.string (⟨#[97]⟩ : ByteArray), .int .i64 0, .int .i64 0, .int .i64 5, .int .i64 3, .int .i64 0, .int .i64 0, .int .i64 0, .int .i64 8, .int .i64 0, .int .i64 0, .int .i64 1, .int .i64 0, .bool false]) (ok := fun _ => True) (okp := fun _ => True) ?hr ?hp (fun _ hk => hk) trivial (Below.refl _ _) (Nat.le_refl _) (by simp) ?_; (case hd => rfl); (case hg => rfl); (case hr => first | (go_simp; done) | (go_simp; rfl)); (case hp => exact (Reps.front (show Kd.M k54 _ _ _ (⟨(⟨#[97]⟩ : ByteArray), 0, 0, 5, 3, 0, 0, 0, 8, 0, 0, 1, 0, false⟩ : S54) [.string (⟨#[97]⟩ : ByteArray), .int .i64 0, .int .i64 0, .int .i64 5, .int .i64 3, .int .i64 0, .int .i64 0, .int .i64 0, .int .i64 8, .int .i64 0, .int .i64 0, .int .i64 1, .int .i64 0, .bool false] from (k54_mkM _ _ _ (⟨(⟨#[97]⟩ : ByteArray), 0, 0, 5, 3, 0, 0, 0, 8, 0, 0, 1, 0, false⟩ : S54) )) rfl (Reps.none _ _) rfl)); intro v203 w59 ho60 hb hg_ hnew_; clear hg_ hnew_; (first | rw [← Ny202.out] at ho60 | (simp only [Int.reduceToNat] at ho60; rw [← Ny202.out] at ho60)); have HO204 := Aside0.mk (Kd.R_lower ho60 (below_size (dL_ HB))); replace HB := Aside0.mk (below_step (dL_ HB) hb); clear hb ho60) | ((with_reducible refine gate_dst (N := 13) rfl ?_); refine Kd.R_lit (Kd.int .i64) _ 3 ?hg (N := 13) ?hd (xs := ([0] : List Int)) (inner := [.int .i64 0]) (ok := fun _ => True) (okp := fun _ => True) ?hr ?hp (fun _ hk => hk) trivial (Below.refl _ _) (Nat.le_refl _) (by simp) ?_; (case hd => rfl); (case hg => rfl); (case hr => first | (go_simp; done) | (go_simp; rfl)); (case hp => exact (Reps.one (show Kd.M (Kd.int .i64) _ _ _ 0 [.int .i64 0] from rfl) (Reps.none _ _))); intro v206 w61 ho62 hb hg_ hnew_; clear hg_ hnew_; (first | rw [← Ny205.out] at ho62 | (simp only [Int.reduceToNat] at ho62; rw [← Ny205.out] at ho62)); replace HO204 := Aside0.mk (Kd.R_below (dR_ HO204) hb); have HO207 := Aside0.mk (Kd.R_lower ho62 (below_size (dL_ HB))); replace HB := Aside0.mk (below_step (dL_ HB) hb); clear hb ho62; obtain ⟨Ao63, co63, eo63⟩ := Kd.R_slice HO204.out; subst eo63; obtain ⟨Ao64, co64, eo64⟩ := Kd.R_slice HO207.out; subst eo64) | ((with_reducible refine gate_callee (f := 19) rfl ?_); refine goesL_ (some 14) rfl rfl Try.func19 (by kernel_rfl) rfl #[.slice Ao63 y202.length co63, .slice Ao64 y205.length co64] rfl tA_ ?_; (with_reducible refine (fleet_Facts.calls k _ _ y202 _ _ y205 t208 t209 t210 t211 t212 t213 t214 t215 t216 _ ?side1 ?side2 ?side3 ?side4 A2.out).mono ?_); (case side1 => repeat (first | exact (Kd.R_reads' HO204.out).2.2 | (with_reducible refine Kd.C_alloc ?_ _) | (with_reducible refine Kd.C_drewN ?_ _) | (with_reducible refine Kd.C_drew ?_))); (case side2 => exact (Kd.R_reads' HO204.out).2.1); (case side3 => repeat (first | exact (Kd.R_reads' HO207.out).2.2 | (with_reducible refine Kd.C_alloc ?_ _) | (with_reducible refine Kd.C_drewN ?_ _) | (with_reducible refine Kd.C_drew ?_))); (case side4 => exact (Kd.R_reads' HO207.out).2.1); rintro e w65 ⟨rfl, hb⟩; refine ⟨_, rfl, ?_⟩; replace HO204 := Aside0.mk (Kd.R_below (dR_ HO204) hb); replace HO207 := Aside0.mk (Kd.R_below (dR_ HO207) hb); replace HB := Aside0.mk (below_step (dL_ HB) hb)) | ((with_reducible refine gate_dst (N := 3) rfl ?_); refine box_event ?hg (N := 3) ?hd (cs := #[.int .i64 0, .int .i64 0, .int .i64 0, .int .i64 0, .int .i64 0, .int .i64 0, .int .i64 0, .bool false]) (t := 33) ?hr ?_; (case hd => rfl); (case hg => rfl); (case hr => first | (go_simp; done) | (go_simp; rfl)); intro gb217 hg w66 hbox hb; replace HO204 := Aside0.mk (Kd.R_below (dR_ HO204) hb); replace HO207 := Aside0.mk (Kd.R_below (dR_ HO207) hb); have BK217 := Aside0.mk (hbox); have GW217 := Aside0.mk ((dS_ hg (dL_ HB) : w.heap.size ≤ gb217)); have GE217 := Aside0.mk ((dS_ hg (dL_ HB) : w.heap.size ≤ gb217)); replace HB := Aside0.mk (below_step (dL_ HB) hb); clear hb hbox hg; obtain ⟨hcz67_0, hcz67_1, hcz67_2, hcz67_3, hcz67_4, hcz67_5, hcz67_6, hcz67_7, hfz67_0, hfz67_1, hfz67_2, hfz67_3, hfz67_4, hfz67_5, hfz67_6, hfz67_7⟩ := cs8_ BK217.out))
  go_ret
  exact ⟨tE_, dL1_ HB GE217⟩

end Go.Proofs.Ytgnahbjpockdmaa.Q
namespace Go.Proofs.Ytgnahbjpockdmaa.Q
open Go.RowKit Go.Proofs.YtgnahbjpockdmaaPrs Go.Proofs.YtgnahbjpockdmaaOwn Go.Proofs.YtgnahbjpockdmaaW.PrintWords Go.Proofs.YtgnahbjpockdmaaW.PrintLast Go.Proofs.YtgnahbjpockdmaaW.PrintMore
attribute [local go_sem] max2_int min2_int max_two min_two max_three min_three max_four min_four   -- for this text's walks alone
set_option linter.unusedVariables false
set_option linter.unusedSimpArgs false

/-! ### hinterlandref14_within: function 42 -/
def hinterlandref14_within.f (a0 : Int) (a1 : Int) (a2 : Int) : Option (Bool) := if a0 ≥ a1 then (some (decide (a0 ≤ a2))) else (some false)
set_option maxHeartbeats 8000000 in
set_option maxRecDepth 100000 in
theorem hinterlandref14_within.calls (a0 : Int) (a1 : Int) (a2 : Int) (r : Bool) (w : World) (h : hinterlandref14_within.f a0 a1 a2 = some r) :
    Calls Try.prog 42 #[.int .i64 a0, .int .i64 a1, .int .i64 a2] w fun e w' => e = .returned (.bool r) ∧ Drawn0 w w' := by
 have H : (if a0 ≥ a1 then (some (decide (a0 ≤ a2))) else (some false)) = some r := h
 clear h
 by_cases c4 : a0 ≥ a1
 ·rw [if_pos c4] at H
  have c4b0 : decide (a1 ≤ a0) = true := decide_eq_true c4
  clear c4
  obtain rfl := Option.some.inj H
  go_enter Try.func42, Try.ntmps42
  go_wp2
  go_ret
  exact ⟨tS_, by repeat (first | exact Drawn0.refl _ | apply Drawn0.step)⟩
 ·rw [if_neg c4] at H
  have c4b0 : decide (a1 ≤ a0) = false := decide_eq_false c4
  clear c4
  obtain rfl := Option.some.inj H
  go_enter Try.func42, Try.ntmps42
  go_wp2
  go_ret
  exact ⟨tS_, by repeat (first | exact Drawn0.refl _ | apply Drawn0.step)⟩

end Go.Proofs.Ytgnahbjpockdmaa.Q
namespace Go.Proofs.Ytgnahbjpockdmaa.Q
open Go.RowKit Go.Proofs.YtgnahbjpockdmaaPrs Go.Proofs.YtgnahbjpockdmaaOwn Go.Proofs.YtgnahbjpockdmaaW.PrintWords Go.Proofs.YtgnahbjpockdmaaW.PrintLast Go.Proofs.YtgnahbjpockdmaaW.PrintMore
attribute [local go_sem] max2_int min2_int max_two min_two max_three min_three max_four min_four   -- for this text's walks alone
set_option linter.unusedVariables false
set_option linter.unusedSimpArgs false

/-! ### hinterlandref10_Named: function 58 -/
mutual
def hinterlandref10_Named.j0 : Nat → ByteArray → Bool → Option (Bool)
  | 0, _, _ => none
  | k + 1, x0, x11 => if x11 = true then (some false) else (hinterlandref10_Named.l0 k x0 0)
def hinterlandref10_Named.l0 : Nat → ByteArray → Int → Option (Bool)
  | 0, _, _ => none
  | k + 1, x0, x3 => if x3 < (x0.size : Int) then (if 0 ≤ x3 then (if (bt x0 x3) < 97 then (hinterlandref10_Named.j2 k x0 x3 true) else (hinterlandref10_Named.j2 k x0 x3 (decide ((bt x0 x3) > 122)))) else (none)) else (some true)
def hinterlandref10_Named.j2 : Nat → ByteArray → Int → Bool → Option (Bool)
  | 0, _, _, _ => none
  | k + 1, x0, x3, x27 => if x27 = true then (some false) else (hinterlandref10_Named.l0 k x0 (wrap64 (x3 + 1)))
end
def hinterlandref10_Named.f (k : Nat) (a0 : ByteArray) : Option (Bool) := if (a0.size : Int) < 1 then (hinterlandref10_Named.j0 k a0 true) else (hinterlandref10_Named.j0 k a0 (decide ((a0.size : Int) > 12)))
theorem hinterlandref10_Named.mono_l : ∀ k, (∀ y0 y1, LeO (hinterlandref10_Named.j0 k y0 y1) (hinterlandref10_Named.j0 (k + 1) y0 y1)) ∧ (∀ y0 y1, LeO (hinterlandref10_Named.l0 k y0 y1) (hinterlandref10_Named.l0 (k + 1) y0 y1)) ∧ (∀ y0 y1 y2, LeO (hinterlandref10_Named.j2 k y0 y1 y2) (hinterlandref10_Named.j2 (k + 1) y0 y1 y2))
  | 0 => ⟨fun _ _ r h => by simp [hinterlandref10_Named.j0] at h, fun _ _ r h => by simp [hinterlandref10_Named.l0] at h, fun _ _ _ r h => by simp [hinterlandref10_Named.j2] at h⟩
  | k + 1 => by
    obtain ⟨ih0, ih1, ih2⟩ := hinterlandref10_Named.mono_l k
    refine ⟨?_, ?_, ?_⟩
    · intro y0 y1
      unfold hinterlandref10_Named.j0
      repeat' first
      | (with_reducible first | exact ih0 _ _ | exact ih1 _ _ | exact ih2 _ _ _ | exact LeO.refl _ | exact LeO.none _ | refine LeO.ite ?_ ?_ | refine LeO.bind ?_ (fun _ => ?_))
      | exact ih0 _ _
      | exact ih1 _ _
      | exact ih2 _ _ _
      | exact LeO.none _
      | refine LeO.ite ?_ ?_
      | refine LeO.bind ?_ (fun _ => ?_)
    · intro y0 y1
      unfold hinterlandref10_Named.l0
      repeat' first
      | (with_reducible first | exact ih0 _ _ | exact ih1 _ _ | exact ih2 _ _ _ | exact LeO.refl _ | exact LeO.none _ | refine LeO.ite ?_ ?_ | refine LeO.bind ?_ (fun _ => ?_))
      | exact ih0 _ _
      | exact ih1 _ _
      | exact ih2 _ _ _
      | exact LeO.none _
      | refine LeO.ite ?_ ?_
      | refine LeO.bind ?_ (fun _ => ?_)
    · intro y0 y1 y2
      unfold hinterlandref10_Named.j2
      repeat' first
      | (with_reducible first | exact ih0 _ _ | exact ih1 _ _ | exact ih2 _ _ _ | exact LeO.refl _ | exact LeO.none _ | refine LeO.ite ?_ ?_ | refine LeO.bind ?_ (fun _ => ?_))
      | exact ih0 _ _
      | exact ih1 _ _
      | exact ih2 _ _ _
      | exact LeO.none _
      | refine LeO.ite ?_ ?_
      | refine LeO.bind ?_ (fun _ => ?_)
theorem hinterlandref10_Named.mono : ∀ a0 k, LeO (hinterlandref10_Named.f k a0) (hinterlandref10_Named.f (k + 1) a0) := by
  intro a0 k
  obtain ⟨ih0, ih1, ih2⟩ := hinterlandref10_Named.mono_l k
  unfold hinterlandref10_Named.f
  repeat' first
      | (with_reducible first | exact ih0 _ _ | exact ih1 _ _ | exact ih2 _ _ _ | exact LeO.refl _ | exact LeO.none _ | refine LeO.ite ?_ ?_ | refine LeO.bind ?_ (fun _ => ?_))
      | exact ih0 _ _
      | exact ih1 _ _
      | exact ih2 _ _ _
      | exact LeO.none _
      | refine LeO.ite ?_ ?_
      | refine LeO.bind ?_ (fun _ => ?_)
set_option maxHeartbeats 8000000 in
set_option maxRecDepth 100000 in
theorem hinterlandref10_Named.calls (k : Nat) (a0 : ByteArray) (r : Bool) (w : World) (h : hinterlandref10_Named.f k a0 = some r) :
    Calls Try.prog 58 #[.string a0] w fun e w' => e = .returned (.bool r) ∧ Drawn0 w w' := by
 have H : (if (a0.size : Int) < 1 then (hinterlandref10_Named.j0 k a0 true) else (hinterlandref10_Named.j0 k a0 (decide ((a0.size : Int) > 12)))) = some r := h
 clear h
 have HC2 := Aside0.mk H
 clear H
 go_enter Try.func58, Try.ntmps58
 go_upto_region 1 with (fail)
 go_cut [11] (fun v11 wc => ∃ (kq : Nat) (x11_1 : Bool), v11 = .bool x11_1 ∧ Aside0 (hinterlandref10_Named.j0 kq a0 x11_1 = some r) ∧ Aside0 (kq ≤ k) ∧ Drawn0 w wc)
 case first =>
  have H := HC2.out
  clear HC2
  by_cases c3 : (a0.size : Int) < 1
  ·rw [if_pos c3] at H
   have c3b0 : decide ((a0.size : Int) < 1) = true := decide_eq_true c3
   have c3b1 : decide (a0.size < 1) = true := decide_eq_true (by omega)
   clear c3
   (first | rw [c3b0] | (simp only [i64_w, i32_w]; rw [c3b0]) | skip)
   have H' := Aside0.mk H
   clear H
   go_wp2
   go_meet
   case rel => exact ⟨_, (true), tS_, H', ⟨by first | omega | exact Nat.le_refl _⟩, by repeat (first | exact Drawn0.refl _ | apply Drawn0.step)⟩
  ·rw [if_neg c3] at H
   have c3b0 : decide ((a0.size : Int) < 1) = false := decide_eq_false c3
   have c3b1 : decide (a0.size < 1) = false := decide_eq_false (by omega)
   clear c3
   (first | rw [c3b0] | (simp only [i64_w, i32_w]; rw [c3b0]) | skip)
   have H' := Aside0.mk H
   clear H
   go_wp2
   go_meet
   case rel => exact ⟨_, (decide ((a0.size : Int) > 12)), tS_, H', ⟨by first | omega | exact Nat.le_refl _⟩, by repeat (first | exact Drawn0.refl _ | apply Drawn0.step)⟩
 case rest =>
  clear HC2
  try clear c3
  obtain ⟨kq, x11_1, rfl, HA, HJ1, ⟨mc1, rfl⟩⟩ := hcut
  cases kq with
  | zero => exact absurd HA.out (by simp [hinterlandref10_Named.j0])
  | succ kj1 =>
   have H := HA.out
   clear HA
   simp only [hinterlandref10_Named.j0] at H
   by_cases c4 : x11_1 = true
   ·subst c4
    have H1 : (some false) = some r := by rw [if_pos rfl] at H; exact H
    clear H
    have H := H1
    clear H1
    obtain rfl := Option.some.inj H
    go_wp2
    go_ret
    exact ⟨tS_, by repeat (first | exact Drawn0.refl _ | apply Drawn0.step)⟩
   ·replace c4 := Bool.eq_false_iff.mpr c4
    subst c4
    have H1 : (hinterlandref10_Named.l0 kj1 a0 0) = some r := by rw [if_neg (show ¬ (false = true) by decide)] at H; exact H
    clear H
    have H := H1
    clear H1
    have H' := Aside0.mk H
    clear H
    go_wp2
    go_loopg [3] kj1 (fun kq v3 w' => ∃ (x3_2 : Int), v3 = .int .i64 x3_2 ∧ Aside0 (hinterlandref10_Named.l0 kq a0 x3_2 = some r) ∧ Aside0 (kq ≤ kj1) ∧ Drawn0 w w')
    case atStart => exact ⟨(0), tS_, H', ⟨Nat.le_refl _⟩, by repeat (first | exact Drawn0.refl _ | apply Drawn0.step)⟩
    case round =>
     clear H'
     try clear c3
     try clear c4
     obtain ⟨x3_2, rfl, HA, HK2, ⟨m2, rfl⟩⟩ := hrel
     cases gk with
     | zero => exact absurd HA.out (by simp [hinterlandref10_Named.l0])
     | succ k2 =>
      have H := HA.out
      clear HA
      simp only [hinterlandref10_Named.l0] at H
      by_cases c5 : x3_2 < (a0.size : Int)
      ·rw [if_pos c5] at H
       have c5b0 : decide (x3_2 < (a0.size : Int)) = true := decide_eq_true c5
       clear c5
       have HC6 := Aside0.mk H
       clear H
       go_upto_region 6 with (fail)
       go_cut [27] (fun v27 wc => ∃ (kq : Nat) (x27_5 : Bool), v27 = .bool x27_5 ∧ Aside0 (hinterlandref10_Named.j2 kq a0 x3_2 x27_5 = some r) ∧ Aside0 (kq ≤ k2) ∧ Drawn0 w wc)
       case first =>
        have H := HC6.out
        clear HC6
        by_cases c7 : 0 ≤ x3_2
        ·rw [if_pos c7] at H
         have c7b0 : decide (0 ≤ x3_2) = true := decide_eq_true c7
         clear c7
         (first | rw [c7b0] | (simp only [i64_w, i32_w]; rw [c7b0]) | skip)
         by_cases c9 : (bt a0 x3_2) < 97
         ·rw [if_pos c9] at H
          have c9b0 : decide ((bt a0 x3_2) < 97) = true := decide_eq_true c9
          clear c9
          have H' := Aside0.mk H
          clear H
          have p8 : 0 ≤ (x3_2 : Int) := of_decide_eq_true tW_
          have q8 : x3_2 < (a0.size : Int) := of_decide_eq_true tW_
          have hx8 := bt_at a0 x3_2
          replace p8 := eq_true p8
          replace q8 := eq_true q8
          go_wp2
          go_meet
          case rel => exact ⟨_, (true), tS_, H', ⟨by have := HJ1.out; have := HK2.out; first | omega | exact Nat.le_refl _⟩, by repeat (first | exact Drawn0.refl _ | apply Drawn0.step)⟩
         ·rw [if_neg c9] at H
          have c9b0 : decide ((bt a0 x3_2) < 97) = false := decide_eq_false c9
          clear c9
          have H' := Aside0.mk H
          clear H
          have p8 : 0 ≤ (x3_2 : Int) := of_decide_eq_true tW_
          have q8 : x3_2 < (a0.size : Int) := of_decide_eq_true tW_
          have hx8 := bt_at a0 x3_2
          replace p8 := eq_true p8
          replace q8 := eq_true q8
          have p10 : 0 ≤ (x3_2 : Int) := of_decide_eq_true tW_
          have q10 : x3_2 < (a0.size : Int) := of_decide_eq_true tW_
          have hx10 := bt_at a0 x3_2
          replace p10 := eq_true p10
          replace q10 := eq_true q10
          go_wp2
          go_meet
          case rel => exact ⟨_, (decide ((bt a0 x3_2) > 122)), tS_, H', ⟨by have := HJ1.out; have := HK2.out; first | omega | exact Nat.le_refl _⟩, by repeat (first | exact Drawn0.refl _ | apply Drawn0.step)⟩
        ·rw [if_neg c7] at H
         exact absurd H (by simp)
       case rest =>
        clear HC6
        try clear c3
        try clear c4
        try clear c5
        try clear c5b0
        try clear c7
        try clear c9
        obtain ⟨kq, x27_5, rfl, HA, HJ5, ⟨mc5, rfl⟩⟩ := hcut
        cases kq with
        | zero => exact absurd HA.out (by simp [hinterlandref10_Named.j2])
        | succ kj5 =>
         have H := HA.out
         clear HA
         simp only [hinterlandref10_Named.j2] at H
         by_cases c11 : x27_5 = true
         ·subst c11
          have H1 : (some false) = some r := by rw [if_pos rfl] at H; exact H
          clear H
          have H := H1
          clear H1
          obtain rfl := Option.some.inj H
          go_wp2
          go_ret
          exact ⟨tS_, by repeat (first | exact Drawn0.refl _ | apply Drawn0.step)⟩
         ·replace c11 := Bool.eq_false_iff.mpr c11
          subst c11
          have H1 : (hinterlandref10_Named.l0 kj5 a0 (wrap64 (x3_2 + 1))) = some r := by rw [if_neg (show ¬ (false = true) by decide)] at H; exact H
          clear H
          have H := H1
          clear H1
          have H' := Aside0.mk H
          clear H
          go_wp2
          go_roundg kj5
          case measure => have := HJ1.out; have := HK2.out; have := HJ5.out; omega
          case rel => exact ⟨(wrap64 (x3_2 + 1)), tS_, H', ⟨by have := HJ1.out; have := HK2.out; have := HJ5.out; omega⟩, by repeat (first | exact Drawn0.refl _ | apply Drawn0.step)⟩
      ·rw [if_neg c5] at H
       have c5b0 : decide (x3_2 < (a0.size : Int)) = false := decide_eq_false c5
       clear c5
       obtain rfl := Option.some.inj H
       go_wp2
       go_ret
       exact ⟨tS_, by repeat (first | exact Drawn0.refl _ | apply Drawn0.step)⟩

end Go.Proofs.Ytgnahbjpockdmaa.Q
namespace Go.Proofs.Ytgnahbjpockdmaa.Q
open Go.RowKit Go.Proofs.YtgnahbjpockdmaaPrs Go.Proofs.YtgnahbjpockdmaaOwn Go.Proofs.YtgnahbjpockdmaaW.PrintWords Go.Proofs.YtgnahbjpockdmaaW.PrintLast Go.Proofs.YtgnahbjpockdmaaW.PrintMore
attribute [local go_sem] max2_int min2_int max_two min_two max_three min_three max_four min_four   -- for this text's walks alone
set_option linter.unusedVariables false
set_option linter.unusedSimpArgs false

/-! ### hinterlandref14_right: function 38 -/
def hinterlandref14_right.f (k : Nat) (a0_0 : ByteArray) (a0_1 : Int) (a0_2 : Int) (a0_3 : Int) (a0_4 : Int) (a0_5 : Int) (a0_6 : Int) (a0_7 : Int) (a0_8 : Int) (a0_9 : Int) (a0_10 : Int) (a0_11 : Int) (a0_12 : Int) (a0_13 : Bool) : Option (Bool) := (hinterlandref10_Named.f k a0_0).bind fun t219 => (if t219 = true then ((hinterlandref14_within.f a0_1 0 3).bind fun t220 => (if t220 = true then ((hinterlandref14_within.f a0_2 0 600).bind fun t221 => (if t221 = true then ((hinterlandref14_within.f a0_3 0 20000).bind fun t222 => (if t222 = true then ((hinterlandref14_within.f a0_4 1 1000).bind fun t223 => (if t223 = true then ((hinterlandref14_within.f a0_5 0 2000).bind fun t224 => (if t224 = true then ((hinterlandref14_within.f a0_6 (-1) 15).bind fun t225 => (if t225 = true then ((hinterlandref14_within.f a0_7 0 1000).bind fun t226 => (if t226 = true then ((hinterlandref14_within.f a0_8 1 16).bind fun t227 => (if t227 = true then ((hinterlandref14_within.f a0_9 0 10000000).bind fun t228 => (if t228 = true then ((hinterlandref14_within.f a0_10 0 10000000).bind fun t229 => (if t229 = true then ((hinterlandref14_within.f a0_11 1 100).bind fun t230 => (if t230 = true then ((hinterlandref14_within.f a0_12 0 1000).bind fun t231 => (some t231)) else (some false))) else (some false))) else (some false))) else (some false))) else (some false))) else (some false))) else (some false))) else (some false))) else (some false))) else (some false))) else (some false))) else (some false))
theorem hinterlandref14_right.mono : ∀ a0 a1 a2 a3 a4 a5 a6 a7 a8 a9 a10 a11 a12 a13 k, LeO (hinterlandref14_right.f k a0 a1 a2 a3 a4 a5 a6 a7 a8 a9 a10 a11 a12 a13) (hinterlandref14_right.f (k + 1) a0 a1 a2 a3 a4 a5 a6 a7 a8 a9 a10 a11 a12 a13) := by
  intro a0 a1 a2 a3 a4 a5 a6 a7 a8 a9 a10 a11 a12 a13 k
  unfold hinterlandref14_right.f
  repeat' first
      | (with_reducible first | exact hinterlandref10_Named.mono _ _ | exact LeO.refl _ | exact LeO.none _ | refine LeO.ite ?_ ?_ | refine LeO.bind ?_ (fun _ => ?_))
      | exact hinterlandref10_Named.mono _ _
      | exact LeO.none _
      | refine LeO.ite ?_ ?_
      | refine LeO.bind ?_ (fun _ => ?_)
set_option maxHeartbeats 8000000 in
set_option maxRecDepth 100000 in
theorem hinterlandref14_right.calls (k : Nat) (a0_0 : ByteArray) (a0_1 : Int) (a0_2 : Int) (a0_3 : Int) (a0_4 : Int) (a0_5 : Int) (a0_6 : Int) (a0_7 : Int) (a0_8 : Int) (a0_9 : Int) (a0_10 : Int) (a0_11 : Int) (a0_12 : Int) (a0_13 : Bool) (r : Bool) (w : World) (h : hinterlandref14_right.f k a0_0 a0_1 a0_2 a0_3 a0_4 a0_5 a0_6 a0_7 a0_8 a0_9 a0_10 a0_11 a0_12 a0_13 = some r) :
    Calls Try.prog 38 #[.agg #[.string a0_0, .int .i64 a0_1, .int .i64 a0_2, .int .i64 a0_3, .int .i64 a0_4, .int .i64 a0_5, .int .i64 a0_6, .int .i64 a0_7, .int .i64 a0_8, .int .i64 a0_9, .int .i64 a0_10, .int .i64 a0_11, .int .i64 a0_12, .bool a0_13]] w fun e w' => e = .returned (.bool r) ∧ Below w.heap.size w w' := by
 have hu54 := Try.underlying54
 have HB := Aside0.mk (Below.refl w.heap.size w)
 have H : ((hinterlandref10_Named.f k a0_0).bind fun t219 => (if t219 = true then ((hinterlandref14_within.f a0_1 0 3).bind fun t220 => (if t220 = true then ((hinterlandref14_within.f a0_2 0 600).bind fun t221 => (if t221 = true then ((hinterlandref14_within.f a0_3 0 20000).bind fun t222 => (if t222 = true then ((hinterlandref14_within.f a0_4 1 1000).bind fun t223 => (if t223 = true then ((hinterlandref14_within.f a0_5 0 2000).bind fun t224 => (if t224 = true then ((hinterlandref14_within.f a0_6 (-1) 15).bind fun t225 => (if t225 = true then ((hinterlandref14_within.f a0_7 0 1000).bind fun t226 => (if t226 = true then ((hinterlandref14_within.f a0_8 1 16).bind fun t227 => (if t227 = true then ((hinterlandref14_within.f a0_9 0 10000000).bind fun t228 => (if t228 = true then ((hinterlandref14_within.f a0_10 0 10000000).bind fun t229 => (if t229 = true then ((hinterlandref14_within.f a0_11 1 100).bind fun t230 => (if t230 = true then ((hinterlandref14_within.f a0_12 0 1000).bind fun t231 => (some t231)) else (some false))) else (some false))) else (some false))) else (some false))) else (some false))) else (some false))) else (some false))) else (some false))) else (some false))) else (some false))) else (some false))) else (some false))) = some r := h
 clear h
 replace H := Option.bind_eq_some_iff.mp H
 obtain ⟨t219, A20, H⟩ := H
 replace H : (if t219 = true then ((hinterlandref14_within.f a0_1 0 3).bind fun t220 => (if t220 = true then ((hinterlandref14_within.f a0_2 0 600).bind fun t221 => (if t221 = true then ((hinterlandref14_within.f a0_3 0 20000).bind fun t222 => (if t222 = true then ((hinterlandref14_within.f a0_4 1 1000).bind fun t223 => (if t223 = true then ((hinterlandref14_within.f a0_5 0 2000).bind fun t224 => (if t224 = true then ((hinterlandref14_within.f a0_6 (-1) 15).bind fun t225 => (if t225 = true then ((hinterlandref14_within.f a0_7 0 1000).bind fun t226 => (if t226 = true then ((hinterlandref14_within.f a0_8 1 16).bind fun t227 => (if t227 = true then ((hinterlandref14_within.f a0_9 0 10000000).bind fun t228 => (if t228 = true then ((hinterlandref14_within.f a0_10 0 10000000).bind fun t229 => (if t229 = true then ((hinterlandref14_within.f a0_11 1 100).bind fun t230 => (if t230 = true then ((hinterlandref14_within.f a0_12 0 1000).bind fun t231 => (some t231)) else (some false))) else (some false))) else (some false))) else (some false))) else (some false))) else (some false))) else (some false))) else (some false))) else (some false))) else (some false))) else (some false))) else (some false)) = some r := H
 have A2 := Aside0.mk A20
 clear A20
 by_cases c3 : t219 = true
 ·subst c3
  have H1 : ((hinterlandref14_within.f a0_1 0 3).bind fun t220 => (if t220 = true then ((hinterlandref14_within.f a0_2 0 600).bind fun t221 => (if t221 = true then ((hinterlandref14_within.f a0_3 0 20000).bind fun t222 => (if t222 = true then ((hinterlandref14_within.f a0_4 1 1000).bind fun t223 => (if t223 = true then ((hinterlandref14_within.f a0_5 0 2000).bind fun t224 => (if t224 = true then ((hinterlandref14_within.f a0_6 (-1) 15).bind fun t225 => (if t225 = true then ((hinterlandref14_within.f a0_7 0 1000).bind fun t226 => (if t226 = true then ((hinterlandref14_within.f a0_8 1 16).bind fun t227 => (if t227 = true then ((hinterlandref14_within.f a0_9 0 10000000).bind fun t228 => (if t228 = true then ((hinterlandref14_within.f a0_10 0 10000000).bind fun t229 => (if t229 = true then ((hinterlandref14_within.f a0_11 1 100).bind fun t230 => (if t230 = true then ((hinterlandref14_within.f a0_12 0 1000).bind fun t231 => (some t231)) else (some false))) else (some false))) else (some false))) else (some false))) else (some false))) else (some false))) else (some false))) else (some false))) else (some false))) else (some false))) else (some false))) = some r := by rw [if_pos rfl] at H; exact H
  clear H
  have H := H1
  clear H1
  replace H := Option.bind_eq_some_iff.mp H
  obtain ⟨t220, A40, H⟩ := H
  replace H : (if t220 = true then ((hinterlandref14_within.f a0_2 0 600).bind fun t221 => (if t221 = true then ((hinterlandref14_within.f a0_3 0 20000).bind fun t222 => (if t222 = true then ((hinterlandref14_within.f a0_4 1 1000).bind fun t223 => (if t223 = true then ((hinterlandref14_within.f a0_5 0 2000).bind fun t224 => (if t224 = true then ((hinterlandref14_within.f a0_6 (-1) 15).bind fun t225 => (if t225 = true then ((hinterlandref14_within.f a0_7 0 1000).bind fun t226 => (if t226 = true then ((hinterlandref14_within.f a0_8 1 16).bind fun t227 => (if t227 = true then ((hinterlandref14_within.f a0_9 0 10000000).bind fun t228 => (if t228 = true then ((hinterlandref14_within.f a0_10 0 10000000).bind fun t229 => (if t229 = true then ((hinterlandref14_within.f a0_11 1 100).bind fun t230 => (if t230 = true then ((hinterlandref14_within.f a0_12 0 1000).bind fun t231 => (some t231)) else (some false))) else (some false))) else (some false))) else (some false))) else (some false))) else (some false))) else (some false))) else (some false))) else (some false))) else (some false))) else (some false)) = some r := H
  have A4 := Aside0.mk A40
  clear A40
  by_cases c5 : t220 = true
  ·subst c5
   have H1 : ((hinterlandref14_within.f a0_2 0 600).bind fun t221 => (if t221 = true then ((hinterlandref14_within.f a0_3 0 20000).bind fun t222 => (if t222 = true then ((hinterlandref14_within.f a0_4 1 1000).bind fun t223 => (if t223 = true then ((hinterlandref14_within.f a0_5 0 2000).bind fun t224 => (if t224 = true then ((hinterlandref14_within.f a0_6 (-1) 15).bind fun t225 => (if t225 = true then ((hinterlandref14_within.f a0_7 0 1000).bind fun t226 => (if t226 = true then ((hinterlandref14_within.f a0_8 1 16).bind fun t227 => (if t227 = true then ((hinterlandref14_within.f a0_9 0 10000000).bind fun t228 => (if t228 = true then ((hinterlandref14_within.f a0_10 0 10000000).bind fun t229 => (if t229 = true then ((hinterlandref14_within.f a0_11 1 100).bind fun t230 => (if t230 = true then ((hinterlandref14_within.f a0_12 0 1000).bind fun t231 => (some t231)) else (some false))) else (some false))) else (some false))) else (some false))) else (some false))) else (some false))) else (some false))) else (some false))) else (some false))) else (some false))) = some r := by rw [if_pos rfl] at H; exact H
   clear H
   have H := H1
   clear H1
   replace H := Option.bind_eq_some_iff.mp H
   obtain ⟨t221, A60, H⟩ := H
   replace H : (if t221 = true then ((hinterlandref14_within.f a0_3 0 20000).bind fun t222 => (if t222 = true then ((hinterlandref14_within.f a0_4 1 1000).bind fun t223 => (if t223 = true then ((hinterlandref14_within.f a0_5 0 2000).bind fun t224 => (if t224 = true then ((hinterlandref14_within.f a0_6 (-1) 15).bind fun t225 => (if t225 = true then ((hinterlandref14_within.f a0_7 0 1000).bind fun t226 => (if t226 = true then ((hinterlandref14_within.f a0_8 1 16).bind fun t227 => (if t227 = true then ((hinterlandref14_within.f a0_9 0 10000000).bind fun t228 => (if t228 = true then ((hinterlandref14_within.f a0_10 0 10000000).bind fun t229 => (if t229 = true then ((hinterlandref14_within.f a0_11 1 100).bind fun t230 => (if t230 = true then ((hinterlandref14_within.f a0_12 0 1000).bind fun t231 => (some t231)) else (some false))) else (some false))) else (some false))) else (some false))) else (some false))) else (some false))) else (some false))) else (some false))) else (some false))) else (some false)) = some r := H
   have A6 := Aside0.mk A60
   clear A60
   by_cases c7 : t221 = true
   ·subst c7
    have H1 : ((hinterlandref14_within.f a0_3 0 20000).bind fun t222 => (if t222 = true then ((hinterlandref14_within.f a0_4 1 1000).bind fun t223 => (if t223 = true then ((hinterlandref14_within.f a0_5 0 2000).bind fun t224 => (if t224 = true then ((hinterlandref14_within.f a0_6 (-1) 15).bind fun t225 => (if t225 = true then ((hinterlandref14_within.f a0_7 0 1000).bind fun t226 => (if t226 = true then ((hinterlandref14_within.f a0_8 1 16).bind fun t227 => (if t227 = true then ((hinterlandref14_within.f a0_9 0 10000000).bind fun t228 => (if t228 = true then ((hinterlandref14_within.f a0_10 0 10000000).bind fun t229 => (if t229 = true then ((hinterlandref14_within.f a0_11 1 100).bind fun t230 => (if t230 = true then ((hinterlandref14_within.f a0_12 0 1000).bind fun t231 => (some t231)) else (some false))) else (some false))) else (some false))) else (some false))) else (some false))) else (some false))) else (some false))) else (some false))) else (some false))) = some r := by rw [if_pos rfl] at H; exact H
    clear H
    have H := H1
    clear H1
    replace H := Option.bind_eq_some_iff.mp H
    obtain ⟨t222, A80, H⟩ := H
    replace H : (if t222 = true then ((hinterlandref14_within.f a0_4 1 1000).bind fun t223 => (if t223 = true then ((hinterlandref14_within.f a0_5 0 2000).bind fun t224 => (if t224 = true then ((hinterlandref14_within.f a0_6 (-1) 15).bind fun t225 => (if t225 = true then ((hinterlandref14_within.f a0_7 0 1000).bind fun t226 => (if t226 = true then ((hinterlandref14_within.f a0_8 1 16).bind fun t227 => (if t227 = true then ((hinterlandref14_within.f a0_9 0 10000000).bind fun t228 => (if t228 = true then ((hinterlandref14_within.f a0_10 0 10000000).bind fun t229 => (if t229 = true then ((hinterlandref14_within.f a0_11 1 100).bind fun t230 => (if t230 = true then ((hinterlandref14_within.f a0_12 0 1000).bind fun t231 => (some t231)) else (some false))) else (some false))) else (some false))) else (some false))) else (some false))) else (some false))) else (some false))) else (some false))) else (some false)) = some r := H
    have A8 := Aside0.mk A80
    clear A80
    by_cases c9 : t222 = true
    ·subst c9
     have H1 : ((hinterlandref14_within.f a0_4 1 1000).bind fun t223 => (if t223 = true then ((hinterlandref14_within.f a0_5 0 2000).bind fun t224 => (if t224 = true then ((hinterlandref14_within.f a0_6 (-1) 15).bind fun t225 => (if t225 = true then ((hinterlandref14_within.f a0_7 0 1000).bind fun t226 => (if t226 = true then ((hinterlandref14_within.f a0_8 1 16).bind fun t227 => (if t227 = true then ((hinterlandref14_within.f a0_9 0 10000000).bind fun t228 => (if t228 = true then ((hinterlandref14_within.f a0_10 0 10000000).bind fun t229 => (if t229 = true then ((hinterlandref14_within.f a0_11 1 100).bind fun t230 => (if t230 = true then ((hinterlandref14_within.f a0_12 0 1000).bind fun t231 => (some t231)) else (some false))) else (some false))) else (some false))) else (some false))) else (some false))) else (some false))) else (some false))) else (some false))) = some r := by rw [if_pos rfl] at H; exact H
     clear H
     have H := H1
     clear H1
     replace H := Option.bind_eq_some_iff.mp H
     obtain ⟨t223, A100, H⟩ := H
     replace H : (if t223 = true then ((hinterlandref14_within.f a0_5 0 2000).bind fun t224 => (if t224 = true then ((hinterlandref14_within.f a0_6 (-1) 15).bind fun t225 => (if t225 = true then ((hinterlandref14_within.f a0_7 0 1000).bind fun t226 => (if t226 = true then ((hinterlandref14_within.f a0_8 1 16).bind fun t227 => (if t227 = true then ((hinterlandref14_within.f a0_9 0 10000000).bind fun t228 => (if t228 = true then ((hinterlandref14_within.f a0_10 0 10000000).bind fun t229 => (if t229 = true then ((hinterlandref14_within.f a0_11 1 100).bind fun t230 => (if t230 = true then ((hinterlandref14_within.f a0_12 0 1000).bind fun t231 => (some t231)) else (some false))) else (some false))) else (some false))) else (some false))) else (some false))) else (some false))) else (some false))) else (some false)) = some r := H
     have A10 := Aside0.mk A100
     clear A100
     by_cases c11 : t223 = true
     ·subst c11
      have H1 : ((hinterlandref14_within.f a0_5 0 2000).bind fun t224 => (if t224 = true then ((hinterlandref14_within.f a0_6 (-1) 15).bind fun t225 => (if t225 = true then ((hinterlandref14_within.f a0_7 0 1000).bind fun t226 => (if t226 = true then ((hinterlandref14_within.f a0_8 1 16).bind fun t227 => (if t227 = true then ((hinterlandref14_within.f a0_9 0 10000000).bind fun t228 => (if t228 = true then ((hinterlandref14_within.f a0_10 0 10000000).bind fun t229 => (if t229 = true then ((hinterlandref14_within.f a0_11 1 100).bind fun t230 => (if t230 = true then ((hinterlandref14_within.f a0_12 0 1000).bind fun t231 => (some t231)) else (some false))) else (some false))) else (some false))) else (some false))) else (some false))) else (some false))) else (some false))) = some r := by rw [if_pos rfl] at H; exact H
      clear H
      have H := H1
      clear H1
      replace H := Option.bind_eq_some_iff.mp H
      obtain ⟨t224, A120, H⟩ := H
      replace H : (if t224 = true then ((hinterlandref14_within.f a0_6 (-1) 15).bind fun t225 => (if t225 = true then ((hinterlandref14_within.f a0_7 0 1000).bind fun t226 => (if t226 = true then ((hinterlandref14_within.f a0_8 1 16).bind fun t227 => (if t227 = true then ((hinterlandref14_within.f a0_9 0 10000000).bind fun t228 => (if t228 = true then ((hinterlandref14_within.f a0_10 0 10000000).bind fun t229 => (if t229 = true then ((hinterlandref14_within.f a0_11 1 100).bind fun t230 => (if t230 = true then ((hinterlandref14_within.f a0_12 0 1000).bind fun t231 => (some t231)) else (some false))) else (some false))) else (some false))) else (some false))) else (some false))) else (some false))) else (some false)) = some r := H
      have A12 := Aside0.mk A120
      clear A120
      by_cases c13 : t224 = true
      ·subst c13
       have H1 : ((hinterlandref14_within.f a0_6 (-1) 15).bind fun t225 => (if t225 = true then ((hinterlandref14_within.f a0_7 0 1000).bind fun t226 => (if t226 = true then ((hinterlandref14_within.f a0_8 1 16).bind fun t227 => (if t227 = true then ((hinterlandref14_within.f a0_9 0 10000000).bind fun t228 => (if t228 = true then ((hinterlandref14_within.f a0_10 0 10000000).bind fun t229 => (if t229 = true then ((hinterlandref14_within.f a0_11 1 100).bind fun t230 => (if t230 = true then ((hinterlandref14_within.f a0_12 0 1000).bind fun t231 => (some t231)) else (some false))) else (some false))) else (some false))) else (some false))) else (some false))) else (some false))) = some r := by rw [if_pos rfl] at H; exact H
       clear H
       have H := H1
       clear H1
       replace H := Option.bind_eq_some_iff.mp H
       obtain ⟨t225, A140, H⟩ := H
       replace H : (if t225 = true then ((hinterlandref14_within.f a0_7 0 1000).bind fun t226 => (if t226 = true then ((hinterlandref14_within.f a0_8 1 16).bind fun t227 => (if t227 = true then ((hinterlandref14_within.f a0_9 0 10000000).bind fun t228 => (if t228 = true then ((hinterlandref14_within.f a0_10 0 10000000).bind fun t229 => (if t229 = true then ((hinterlandref14_within.f a0_11 1 100).bind fun t230 => (if t230 = true then ((hinterlandref14_within.f a0_12 0 1000).bind fun t231 => (some t231)) else (some false))) else (some false))) else (some false))) else (some false))) else (some false))) else (some false)) = some r := H
       have A14 := Aside0.mk A140
       clear A140
       by_cases c15 : t225 = true
       ·subst c15
        have H1 : ((hinterlandref14_within.f a0_7 0 1000).bind fun t226 => (if t226 = true then ((hinterlandref14_within.f a0_8 1 16).bind fun t227 => (if t227 = true then ((hinterlandref14_within.f a0_9 0 10000000).bind fun t228 => (if t228 = true then ((hinterlandref14_within.f a0_10 0 10000000).bind fun t229 => (if t229 = true then ((hinterlandref14_within.f a0_11 1 100).bind fun t230 => (if t230 = true then ((hinterlandref14_within.f a0_12 0 1000).bind fun t231 => (some t231)) else (some false))) else (some false))) else (some false))) else (some false))) else (some false))) = some r := by rw [if_pos rfl] at H; exact H
        clear H
        have H := H1
        clear H1
        replace H := Option.bind_eq_some_iff.mp H
        obtain ⟨t226, A160, H⟩ := H
        replace H : (if t226 = true then ((hinterlandref14_within.f a0_8 1 16).bind fun t227 => (if t227 = true then ((hinterlandref14_within.f a0_9 0 10000000).bind fun t228 => (if t228 = true then ((hinterlandref14_within.f a0_10 0 10000000).bind fun t229 => (if t229 = true then ((hinterlandref14_within.f a0_11 1 100).bind fun t230 => (if t230 = true then ((hinterlandref14_within.f a0_12 0 1000).bind fun t231 => (some t231)) else (some false))) else (some false))) else (some false))) else (some false))) else (some false)) = some r := H
        have A16 := Aside0.mk A160
        clear A160
        by_cases c17 : t226 = true
        ·subst c17
         have H1 : ((hinterlandref14_within.f a0_8 1 16).bind fun t227 => (if t227 = true then ((hinterlandref14_within.f a0_9 0 10000000).bind fun t228 => (if t228 = true then ((hinterlandref14_within.f a0_10 0 10000000).bind fun t229 => (if t229 = true then ((hinterlandref14_within.f a0_11 1 100).bind fun t230 => (if t230 = true then ((hinterlandref14_within.f a0_12 0 1000).bind fun t231 => (some t231)) else (some false))) else (some false))) else (some false))) else (some false))) = some r := by rw [if_pos rfl] at H; exact H
         clear H
         have H := H1
         clear H1
         replace H := Option.bind_eq_some_iff.mp H
         obtain ⟨t227, A180, H⟩ := H
         replace H : (if t227 = true then ((hinterlandref14_within.f a0_9 0 10000000).bind fun t228 => (if t228 = true then ((hinterlandref14_within.f a0_10 0 10000000).bind fun t229 => (if t229 = true then ((hinterlandref14_within.f a0_11 1 100).bind fun t230 => (if t230 = true then ((hinterlandref14_within.f a0_12 0 1000).bind fun t231 => (some t231)) else (some false))) else (some false))) else (some false))) else (some false)) = some r := H
         have A18 := Aside0.mk A180
         clear A180
         by_cases c19 : t227 = true
         ·subst c19
          have H1 : ((hinterlandref14_within.f a0_9 0 10000000).bind fun t228 => (if t228 = true then ((hinterlandref14_within.f a0_10 0 10000000).bind fun t229 => (if t229 = true then ((hinterlandref14_within.f a0_11 1 100).bind fun t230 => (if t230 = true then ((hinterlandref14_within.f a0_12 0 1000).bind fun t231 => (some t231)) else (some false))) else (some false))) else (some false))) = some r := by rw [if_pos rfl] at H; exact H
          clear H
          have H := H1
          clear H1
          replace H := Option.bind_eq_some_iff.mp H
          obtain ⟨t228, A200, H⟩ := H
          replace H : (if t228 = true then ((hinterlandref14_within.f a0_10 0 10000000).bind fun t229 => (if t229 = true then ((hinterlandref14_within.f a0_11 1 100).bind fun t230 => (if t230 = true then ((hinterlandref14_within.f a0_12 0 1000).bind fun t231 => (some t231)) else (some false))) else (some false))) else (some false)) = some r := H
          have A20 := Aside0.mk A200
          clear A200
          by_cases c21 : t228 = true
          ·subst c21
           have H1 : ((hinterlandref14_within.f a0_10 0 10000000).bind fun t229 => (if t229 = true then ((hinterlandref14_within.f a0_11 1 100).bind fun t230 => (if t230 = true then ((hinterlandref14_within.f a0_12 0 1000).bind fun t231 => (some t231)) else (some false))) else (some false))) = some r := by rw [if_pos rfl] at H; exact H
           clear H
           have H := H1
           clear H1
           replace H := Option.bind_eq_some_iff.mp H
           obtain ⟨t229, A220, H⟩ := H
           replace H : (if t229 = true then ((hinterlandref14_within.f a0_11 1 100).bind fun t230 => (if t230 = true then ((hinterlandref14_within.f a0_12 0 1000).bind fun t231 => (some t231)) else (some false))) else (some false)) = some r := H
           have A22 := Aside0.mk A220
           clear A220
           by_cases c23 : t229 = true
           ·subst c23
            have H1 : ((hinterlandref14_within.f a0_11 1 100).bind fun t230 => (if t230 = true then ((hinterlandref14_within.f a0_12 0 1000).bind fun t231 => (some t231)) else (some false))) = some r := by rw [if_pos rfl] at H; exact H
            clear H
            have H := H1
            clear H1
            replace H := Option.bind_eq_some_iff.mp H
            obtain ⟨t230, A240, H⟩ := H
            replace H : (if t230 = true then ((hinterlandref14_within.f a0_12 0 1000).bind fun t231 => (some t231)) else (some false)) = some r := H
            have A24 := Aside0.mk A240
            clear A240
            by_cases c25 : t230 = true
            ·subst c25
             have H1 : ((hinterlandref14_within.f a0_12 0 1000).bind fun t231 => (some t231)) = some r := by rw [if_pos rfl] at H; exact H
             clear H
             have H := H1
             clear H1
             replace H := Option.bind_eq_some_iff.mp H
             obtain ⟨t231, A260, H⟩ := H
             replace H : (some t231) = some r := H
             have A26 := Aside0.mk A260
             clear A260
             obtain rfl := Option.some.inj H
             go_enter Try.func38, Try.ntmps38
             go_wp2_with (first | ((with_reducible refine gate_dst (N := 1) rfl ?_); refine box_event ?hg (N := 1) ?hd (cs := #[.string a0_0, .int .i64 a0_1, .int .i64 a0_2, .int .i64 a0_3, .int .i64 a0_4, .int .i64 a0_5, .int .i64 a0_6, .int .i64 a0_7, .int .i64 a0_8, .int .i64 a0_9, .int .i64 a0_10, .int .i64 a0_11, .int .i64 a0_12, .bool a0_13]) (t := 54) ?hr ?_; (case hd => rfl); (case hg => rfl); (case hr => first | (go_simp; done) | (go_simp; rfl)); intro gb218 hg w27 hbox hb; have BK218 := Aside0.mk (hbox); have GW218 := Aside0.mk ((dS_ hg (dL_ HB) : w.heap.size ≤ gb218)); have GE218 := Aside0.mk ((dS_ hg (dL_ HB) : w.heap.size ≤ gb218)); replace HB := Aside0.mk (below_step (dL_ HB) hb); clear hb hbox hg; obtain ⟨hcz28_0, hcz28_1, hcz28_2, hcz28_3, hcz28_4, hcz28_5, hcz28_6, hcz28_7, hcz28_8, hcz28_9, hcz28_10, hcz28_11, hcz28_12, hcz28_13, hfz28_0, hfz28_1, hfz28_2, hfz28_3, hfz28_4, hfz28_5, hfz28_6, hfz28_7, hfz28_8, hfz28_9, hfz28_10, hfz28_11, hfz28_12, hfz28_13⟩ := cs14_ BK218.out) | (go_at_call 58; (with_reducible refine (hinterlandref10_Named.calls k a0_0 true _ A2.out).mono ?_); rintro e w' ⟨rfl, ⟨nd, rfl⟩⟩) | (go_at_call 42; (with_reducible refine (hinterlandref14_within.calls a0_1 0 3 true _ A4.out).mono ?_); rintro e w' ⟨rfl, ⟨nd, rfl⟩⟩) | (go_at_call 42; (with_reducible refine (hinterlandref14_within.calls a0_2 0 600 true _ A6.out).mono ?_); rintro e w' ⟨rfl, ⟨nd, rfl⟩⟩) | (go_at_call 42; (with_reducible refine (hinterlandref14_within.calls a0_3 0 20000 true _ A8.out).mono ?_); rintro e w' ⟨rfl, ⟨nd, rfl⟩⟩) | (go_at_call 42; (with_reducible refine (hinterlandref14_within.calls a0_4 1 1000 true _ A10.out).mono ?_); rintro e w' ⟨rfl, ⟨nd, rfl⟩⟩) | (go_at_call 42; (with_reducible refine (hinterlandref14_within.calls a0_5 0 2000 true _ A12.out).mono ?_); rintro e w' ⟨rfl, ⟨nd, rfl⟩⟩) | (go_at_call 42; (with_reducible refine (hinterlandref14_within.calls a0_6 (-1) 15 true _ A14.out).mono ?_); rintro e w' ⟨rfl, ⟨nd, rfl⟩⟩) | (go_at_call 42; (with_reducible refine (hinterlandref14_within.calls a0_7 0 1000 true _ A16.out).mono ?_); rintro e w' ⟨rfl, ⟨nd, rfl⟩⟩) | (go_at_call 42; (with_reducible refine (hinterlandref14_within.calls a0_8 1 16 true _ A18.out).mono ?_); rintro e w' ⟨rfl, ⟨nd, rfl⟩⟩) | (go_at_call 42; (with_reducible refine (hinterlandref14_within.calls a0_9 0 10000000 true _ A20.out).mono ?_); rintro e w' ⟨rfl, ⟨nd, rfl⟩⟩) | (go_at_call 42; (with_reducible refine (hinterlandref14_within.calls a0_10 0 10000000 true _ A22.out).mono ?_); rintro e w' ⟨rfl, ⟨nd, rfl⟩⟩) | (go_at_call 42; (with_reducible refine (hinterlandref14_within.calls a0_11 1 100 true _ A24.out).mono ?_); rintro e w' ⟨rfl, ⟨nd, rfl⟩⟩) | (go_at_call 42; (with_reducible refine (hinterlandref14_within.calls a0_12 0 1000 t231 _ A26.out).mono ?_); rintro e w' ⟨rfl, ⟨nd, rfl⟩⟩))
             go_ret
             exact ⟨tE_, dL1_ HB GE218⟩
            ·replace c25 := Bool.eq_false_iff.mpr c25
             subst c25
             have H1 : (some false) = some r := by rw [if_neg (show ¬ (false = true) by decide)] at H; exact H
             clear H
             have H := H1
             clear H1
             obtain rfl := Option.some.inj H
             go_enter Try.func38, Try.ntmps38
             go_wp2_with (first | ((with_reducible refine gate_dst (N := 1) rfl ?_); refine box_event ?hg (N := 1) ?hd (cs := #[.string a0_0, .int .i64 a0_1, .int .i64 a0_2, .int .i64 a0_3, .int .i64 a0_4, .int .i64 a0_5, .int .i64 a0_6, .int .i64 a0_7, .int .i64 a0_8, .int .i64 a0_9, .int .i64 a0_10, .int .i64 a0_11, .int .i64 a0_12, .bool a0_13]) (t := 54) ?hr ?_; (case hd => rfl); (case hg => rfl); (case hr => first | (go_simp; done) | (go_simp; rfl)); intro gb218 hg w29 hbox hb; have BK218 := Aside0.mk (hbox); have GW218 := Aside0.mk ((dS_ hg (dL_ HB) : w.heap.size ≤ gb218)); have GE218 := Aside0.mk ((dS_ hg (dL_ HB) : w.heap.size ≤ gb218)); replace HB := Aside0.mk (below_step (dL_ HB) hb); clear hb hbox hg; obtain ⟨hcz30_0, hcz30_1, hcz30_2, hcz30_3, hcz30_4, hcz30_5, hcz30_6, hcz30_7, hcz30_8, hcz30_9, hcz30_10, hcz30_11, hcz30_12, hcz30_13, hfz30_0, hfz30_1, hfz30_2, hfz30_3, hfz30_4, hfz30_5, hfz30_6, hfz30_7, hfz30_8, hfz30_9, hfz30_10, hfz30_11, hfz30_12, hfz30_13⟩ := cs14_ BK218.out) | (go_at_call 58; (with_reducible refine (hinterlandref10_Named.calls k a0_0 true _ A2.out).mono ?_); rintro e w' ⟨rfl, ⟨nd, rfl⟩⟩) | (go_at_call 42; (with_reducible refine (hinterlandref14_within.calls a0_1 0 3 true _ A4.out).mono ?_); rintro e w' ⟨rfl, ⟨nd, rfl⟩⟩) | (go_at_call 42; (with_reducible refine (hinterlandref14_within.calls a0_2 0 600 true _ A6.out).mono ?_); rintro e w' ⟨rfl, ⟨nd, rfl⟩⟩) | (go_at_call 42; (with_reducible refine (hinterlandref14_within.calls a0_3 0 20000 true _ A8.out).mono ?_); rintro e w' ⟨rfl, ⟨nd, rfl⟩⟩) | (go_at_call 42; (with_reducible refine (hinterlandref14_within.calls a0_4 1 1000 true _ A10.out).mono ?_); rintro e w' ⟨rfl, ⟨nd, rfl⟩⟩) | (go_at_call 42; (with_reducible refine (hinterlandref14_within.calls a0_5 0 2000 true _ A12.out).mono ?_); rintro e w' ⟨rfl, ⟨nd, rfl⟩⟩) | (go_at_call 42; (with_reducible refine (hinterlandref14_within.calls a0_6 (-1) 15 true _ A14.out).mono ?_); rintro e w' ⟨rfl, ⟨nd, rfl⟩⟩) | (go_at_call 42; (with_reducible refine (hinterlandref14_within.calls a0_7 0 1000 true _ A16.out).mono ?_); rintro e w' ⟨rfl, ⟨nd, rfl⟩⟩) | (go_at_call 42; (with_reducible refine (hinterlandref14_within.calls a0_8 1 16 true _ A18.out).mono ?_); rintro e w' ⟨rfl, ⟨nd, rfl⟩⟩) | (go_at_call 42; (with_reducible refine (hinterlandref14_within.calls a0_9 0 10000000 true _ A20.out).mono ?_); rintro e w' ⟨rfl, ⟨nd, rfl⟩⟩) | (go_at_call 42; (with_reducible refine (hinterlandref14_within.calls a0_10 0 10000000 true _ A22.out).mono ?_); rintro e w' ⟨rfl, ⟨nd, rfl⟩⟩) | (go_at_call 42; (with_reducible refine (hinterlandref14_within.calls a0_11 1 100 false _ A24.out).mono ?_); rintro e w' ⟨rfl, ⟨nd, rfl⟩⟩))
             go_ret
             exact ⟨tE_, dL1_ HB GE218⟩
           ·replace c23 := Bool.eq_false_iff.mpr c23
            subst c23
            have H1 : (some false) = some r := by rw [if_neg (show ¬ (false = true) by decide)] at H; exact H
            clear H
            have H := H1
            clear H1
            obtain rfl := Option.some.inj H
            go_enter Try.func38, Try.ntmps38
            go_wp2_with (first | ((with_reducible refine gate_dst (N := 1) rfl ?_); refine box_event ?hg (N := 1) ?hd (cs := #[.string a0_0, .int .i64 a0_1, .int .i64 a0_2, .int .i64 a0_3, .int .i64 a0_4, .int .i64 a0_5, .int .i64 a0_6, .int .i64 a0_7, .int .i64 a0_8, .int .i64 a0_9, .int .i64 a0_10, .int .i64 a0_11, .int .i64 a0_12, .bool a0_13]) (t := 54) ?hr ?_; (case hd => rfl); (case hg => rfl); (case hr => first | (go_simp; done) | (go_simp; rfl)); intro gb218 hg w31 hbox hb; have BK218 := Aside0.mk (hbox); have GW218 := Aside0.mk ((dS_ hg (dL_ HB) : w.heap.size ≤ gb218)); have GE218 := Aside0.mk ((dS_ hg (dL_ HB) : w.heap.size ≤ gb218)); replace HB := Aside0.mk (below_step (dL_ HB) hb); clear hb hbox hg; obtain ⟨hcz32_0, hcz32_1, hcz32_2, hcz32_3, hcz32_4, hcz32_5, hcz32_6, hcz32_7, hcz32_8, hcz32_9, hcz32_10, hcz32_11, hcz32_12, hcz32_13, hfz32_0, hfz32_1, hfz32_2, hfz32_3, hfz32_4, hfz32_5, hfz32_6, hfz32_7, hfz32_8, hfz32_9, hfz32_10, hfz32_11, hfz32_12, hfz32_13⟩ := cs14_ BK218.out) | (go_at_call 58; (with_reducible refine (hinterlandref10_Named.calls k a0_0 true _ A2.out).mono ?_); rintro e w' ⟨rfl, ⟨nd, rfl⟩⟩) | (go_at_call 42; (with_reducible refine (hinterlandref14_within.calls a0_1 0 3 true _ A4.out).mono ?_); rintro e w' ⟨rfl, ⟨nd, rfl⟩⟩) | (go_at_call 42; (with_reducible refine (hinterlandref14_within.calls a0_2 0 600 true _ A6.out).mono ?_); rintro e w' ⟨rfl, ⟨nd, rfl⟩⟩) | (go_at_call 42; (with_reducible refine (hinterlandref14_within.calls a0_3 0 20000 true _ A8.out).mono ?_); rintro e w' ⟨rfl, ⟨nd, rfl⟩⟩) | (go_at_call 42; (with_reducible refine (hinterlandref14_within.calls a0_4 1 1000 true _ A10.out).mono ?_); rintro e w' ⟨rfl, ⟨nd, rfl⟩⟩) | (go_at_call 42; (with_reducible refine (hinterlandref14_within.calls a0_5 0 2000 true _ A12.out).mono ?_); rintro e w' ⟨rfl, ⟨nd, rfl⟩⟩) | (go_at_call 42; (with_reducible refine (hinterlandref14_within.calls a0_6 (-1) 15 true _ A14.out).mono ?_); rintro e w' ⟨rfl, ⟨nd, rfl⟩⟩) | (go_at_call 42; (with_reducible refine (hinterlandref14_within.calls a0_7 0 1000 true _ A16.out).mono ?_); rintro e w' ⟨rfl, ⟨nd, rfl⟩⟩) | (go_at_call 42; (with_reducible refine (hinterlandref14_within.calls a0_8 1 16 true _ A18.out).mono ?_); rintro e w' ⟨rfl, ⟨nd, rfl⟩⟩) | (go_at_call 42; (with_reducible refine (hinterlandref14_within.calls a0_9 0 10000000 true _ A20.out).mono ?_); rintro e w' ⟨rfl, ⟨nd, rfl⟩⟩) | (go_at_call 42; (with_reducible refine (hinterlandref14_within.calls a0_10 0 10000000 false _ A22.out).mono ?_); rintro e w' ⟨rfl, ⟨nd, rfl⟩⟩))
            go_ret
            exact ⟨tE_, dL1_ HB GE218⟩
          ·replace c21 := Bool.eq_false_iff.mpr c21
           subst c21
           have H1 : (some false) = some r := by rw [if_neg (show ¬ (false = true) by decide)] at H; exact H
           clear H
           have H := H1
           clear H1
           obtain rfl := Option.some.inj H
           go_enter Try.func38, Try.ntmps38
           go_wp2_with (first | ((with_reducible refine gate_dst (N := 1) rfl ?_); refine box_event ?hg (N := 1) ?hd (cs := #[.string a0_0, .int .i64 a0_1, .int .i64 a0_2, .int .i64 a0_3, .int .i64 a0_4, .int .i64 a0_5, .int .i64 a0_6, .int .i64 a0_7, .int .i64 a0_8, .int .i64 a0_9, .int .i64 a0_10, .int .i64 a0_11, .int .i64 a0_12, .bool a0_13]) (t := 54) ?hr ?_; (case hd => rfl); (case hg => rfl); (case hr => first | (go_simp; done) | (go_simp; rfl)); intro gb218 hg w33 hbox hb; have BK218 := Aside0.mk (hbox); have GW218 := Aside0.mk ((dS_ hg (dL_ HB) : w.heap.size ≤ gb218)); have GE218 := Aside0.mk ((dS_ hg (dL_ HB) : w.heap.size ≤ gb218)); replace HB := Aside0.mk (below_step (dL_ HB) hb); clear hb hbox hg; obtain ⟨hcz34_0, hcz34_1, hcz34_2, hcz34_3, hcz34_4, hcz34_5, hcz34_6, hcz34_7, hcz34_8, hcz34_9, hcz34_10, hcz34_11, hcz34_12, hcz34_13, hfz34_0, hfz34_1, hfz34_2, hfz34_3, hfz34_4, hfz34_5, hfz34_6, hfz34_7, hfz34_8, hfz34_9, hfz34_10, hfz34_11, hfz34_12, hfz34_13⟩ := cs14_ BK218.out) | (go_at_call 58; (with_reducible refine (hinterlandref10_Named.calls k a0_0 true _ A2.out).mono ?_); rintro e w' ⟨rfl, ⟨nd, rfl⟩⟩) | (go_at_call 42; (with_reducible refine (hinterlandref14_within.calls a0_1 0 3 true _ A4.out).mono ?_); rintro e w' ⟨rfl, ⟨nd, rfl⟩⟩) | (go_at_call 42; (with_reducible refine (hinterlandref14_within.calls a0_2 0 600 true _ A6.out).mono ?_); rintro e w' ⟨rfl, ⟨nd, rfl⟩⟩) | (go_at_call 42; (with_reducible refine (hinterlandref14_within.calls a0_3 0 20000 true _ A8.out).mono ?_); rintro e w' ⟨rfl, ⟨nd, rfl⟩⟩) | (go_at_call 42; (with_reducible refine (hinterlandref14_within.calls a0_4 1 1000 true _ A10.out).mono ?_); rintro e w' ⟨rfl, ⟨nd, rfl⟩⟩) | (go_at_call 42; (with_reducible refine (hinterlandref14_within.calls a0_5 0 2000 true _ A12.out).mono ?_); rintro e w' ⟨rfl, ⟨nd, rfl⟩⟩) | (go_at_call 42; (with_reducible refine (hinterlandref14_within.calls a0_6 (-1) 15 true _ A14.out).mono ?_); rintro e w' ⟨rfl, ⟨nd, rfl⟩⟩) | (go_at_call 42; (with_reducible refine (hinterlandref14_within.calls a0_7 0 1000 true _ A16.out).mono ?_); rintro e w' ⟨rfl, ⟨nd, rfl⟩⟩) | (go_at_call 42; (with_reducible refine (hinterlandref14_within.calls a0_8 1 16 true _ A18.out).mono ?_); rintro e w' ⟨rfl, ⟨nd, rfl⟩⟩) | (go_at_call 42; (with_reducible refine (hinterlandref14_within.calls a0_9 0 10000000 false _ A20.out).mono ?_); rintro e w' ⟨rfl, ⟨nd, rfl⟩⟩))
           go_ret
           exact ⟨tE_, dL1_ HB GE218⟩
         ·replace c19 := Bool.eq_false_iff.mpr c19
          subst c19
          have H1 : (some false) = some r := by rw [if_neg (show ¬ (false = true) by decide)] at H; exact H
          clear H
          have H := H1
          clear H1
          obtain rfl := Option.some.inj H
          go_enter Try.func38, Try.ntmps38
          go_wp2_with (first | ((with_reducible refine gate_dst (N := 1) rfl ?_); refine box_event ?hg (N := 1) ?hd (cs := #[.string a0_0, .int .i64 a0_1, .int .i64 a0_2, .int .i64 a0_3, .int .i64 a0_4, .int .i64 a0_5, .int .i64 a0_6, .int .i64 a0_7, .int .i64 a0_8, .int .i64 a0_9, .int .i64 a0_10, .int .i64 a0_11, .int .i64 a0_12, .bool a0_13]) (t := 54) ?hr ?_; (case hd => rfl); (case hg => rfl); (case hr => first | (go_simp; done) | (go_simp; rfl)); intro gb218 hg w35 hbox hb; have BK218 := Aside0.mk (hbox); have GW218 := Aside0.mk ((dS_ hg (dL_ HB) : w.heap.size ≤ gb218)); have GE218 := Aside0.mk ((dS_ hg (dL_ HB) : w.heap.size ≤ gb218)); replace HB := Aside0.mk (below_step (dL_ HB) hb); clear hb hbox hg; obtain ⟨hcz36_0, hcz36_1, hcz36_2, hcz36_3, hcz36_4, hcz36_5, hcz36_6, hcz36_7, hcz36_8, hcz36_9, hcz36_10, hcz36_11, hcz36_12, hcz36_13, hfz36_0, hfz36_1, hfz36_2, hfz36_3, hfz36_4, hfz36_5, hfz36_6, hfz36_7, hfz36_8, hfz36_9, hfz36_10, hfz36_11, hfz36_12, hfz36_13⟩ := cs14_ BK218.out) | (go_at_call 58; (with_reducible refine (hinterlandref10_Named.calls k a0_0 true _ A2.out).mono ?_); rintro e w' ⟨rfl, ⟨nd, rfl⟩⟩) | (go_at_call 42; (with_reducible refine (hinterlandref14_within.calls a0_1 0 3 true _ A4.out).mono ?_); rintro e w' ⟨rfl, ⟨nd, rfl⟩⟩) | (go_at_call 42; (with_reducible refine (hinterlandref14_within.calls a0_2 0 600 true _ A6.out).mono ?_); rintro e w' ⟨rfl, ⟨nd, rfl⟩⟩) | (go_at_call 42; (with_reducible refine (hinterlandref14_within.calls a0_3 0 20000 true _ A8.out).mono ?_); rintro e w' ⟨rfl, ⟨nd, rfl⟩⟩) | (go_at_call 42; (with_reducible refine (hinterlandref14_within.calls a0_4 1 1000 true _ A10.out).mono ?_); rintro e w' ⟨rfl, ⟨nd, rfl⟩⟩) | (go_at_call 42; (with_reducible refine (hinterlandref14_within.calls a0_5 0 2000 true _ A12.out).mono ?_); rintro e w' ⟨rfl, ⟨nd, rfl⟩⟩) | (go_at_call 42; (with_reducible refine (hinterlandref14_within.calls a0_6 (-1) 15 true _ A14.out).mono ?_); rintro e w' ⟨rfl, ⟨nd, rfl⟩⟩) | (go_at_call 42; (with_reducible refine (hinterlandref14_within.calls a0_7 0 1000 true _ A16.out).mono ?_); rintro e w' ⟨rfl, ⟨nd, rfl⟩⟩) | (go_at_call 42; (with_reducible refine (hinterlandref14_within.calls a0_8 1 16 false _ A18.out).mono ?_); rintro e w' ⟨rfl, ⟨nd, rfl⟩⟩))
          go_ret
          exact ⟨tE_, dL1_ HB GE218⟩
        ·replace c17 := Bool.eq_false_iff.mpr c17
         subst c17
         have H1 : (some false) = some r := by rw [if_neg (show ¬ (false = true) by decide)] at H; exact H
         clear H
         have H := H1
         clear H1
         obtain rfl := Option.some.inj H
         go_enter Try.func38, Try.ntmps38
         go_wp2_with (first | ((with_reducible refine gate_dst (N := 1) rfl ?_); refine box_event ?hg (N := 1) ?hd (cs := #[.string a0_0, .int .i64 a0_1, .int .i64 a0_2, .int .i64 a0_3, .int .i64 a0_4, .int .i64 a0_5, .int .i64 a0_6, .int .i64 a0_7, .int .i64 a0_8, .int .i64 a0_9, .int .i64 a0_10, .int .i64 a0_11, .int .i64 a0_12, .bool a0_13]) (t := 54) ?hr ?_; (case hd => rfl); (case hg => rfl); (case hr => first | (go_simp; done) | (go_simp; rfl)); intro gb218 hg w37 hbox hb; have BK218 := Aside0.mk (hbox); have GW218 := Aside0.mk ((dS_ hg (dL_ HB) : w.heap.size ≤ gb218)); have GE218 := Aside0.mk ((dS_ hg (dL_ HB) : w.heap.size ≤ gb218)); replace HB := Aside0.mk (below_step (dL_ HB) hb); clear hb hbox hg; obtain ⟨hcz38_0, hcz38_1, hcz38_2, hcz38_3, hcz38_4, hcz38_5, hcz38_6, hcz38_7, hcz38_8, hcz38_9, hcz38_10, hcz38_11, hcz38_12, hcz38_13, hfz38_0, hfz38_1, hfz38_2, hfz38_3, hfz38_4, hfz38_5, hfz38_6, hfz38_7, hfz38_8, hfz38_9, hfz38_10, hfz38_11, hfz38_12, hfz38_13⟩ := cs14_ BK218.out) | (go_at_call 58; (with_reducible refine (hinterlandref10_Named.calls k a0_0 true _ A2.out).mono ?_); rintro e w' ⟨rfl, ⟨nd, rfl⟩⟩) | (go_at_call 42; (with_reducible refine (hinterlandref14_within.calls a0_1 0 3 true _ A4.out).mono ?_); rintro e w' ⟨rfl, ⟨nd, rfl⟩⟩) | (go_at_call 42; (with_reducible refine (hinterlandref14_within.calls a0_2 0 600 true _ A6.out).mono ?_); rintro e w' ⟨rfl, ⟨nd, rfl⟩⟩) | (go_at_call 42; (with_reducible refine (hinterlandref14_within.calls a0_3 0 20000 true _ A8.out).mono ?_); rintro e w' ⟨rfl, ⟨nd, rfl⟩⟩) | (go_at_call 42; (with_reducible refine (hinterlandref14_within.calls a0_4 1 1000 true _ A10.out).mono ?_); rintro e w' ⟨rfl, ⟨nd, rfl⟩⟩) | (go_at_call 42; (with_reducible refine (hinterlandref14_within.calls a0_5 0 2000 true _ A12.out).mono ?_); rintro e w' ⟨rfl, ⟨nd, rfl⟩⟩) | (go_at_call 42; (with_reducible refine (hinterlandref14_within.calls a0_6 (-1) 15 true _ A14.out).mono ?_); rintro e w' ⟨rfl, ⟨nd, rfl⟩⟩) | (go_at_call 42; (with_reducible refine (hinterlandref14_within.calls a0_7 0 1000 false _ A16.out).mono ?_); rintro e w' ⟨rfl, ⟨nd, rfl⟩⟩))
         go_ret
         exact ⟨tE_, dL1_ HB GE218⟩
       ·replace c15 := Bool.eq_false_iff.mpr c15
        subst c15
        have H1 : (some false) = some r := by rw [if_neg (show ¬ (false = true) by decide)] at H; exact H
        clear H
        have H := H1
        clear H1
        obtain rfl := Option.some.inj H
        go_enter Try.func38, Try.ntmps38
        go_wp2_with (first | ((with_reducible refine gate_dst (N := 1) rfl ?_); refine box_event ?hg (N := 1) ?hd (cs := #[.string a0_0, .int .i64 a0_1, .int .i64 a0_2, .int .i64 a0_3, .int .i64 a0_4, .int .i64 a0_5, .int .i64 a0_6, .int .i64 a0_7, .int .i64 a0_8, .int .i64 a0_9, .int .i64 a0_10, .int .i64 a0_11, .int .i64 a0_12, .bool a0_13]) (t := 54) ?hr ?_; (case hd => rfl); (case hg => rfl); (case hr => first | (go_simp; done) | (go_simp; rfl)); intro gb218 hg w39 hbox hb; have BK218 := Aside0.mk (hbox); have GW218 := Aside0.mk ((dS_ hg (dL_ HB) : w.heap.size ≤ gb218)); have GE218 := Aside0.mk ((dS_ hg (dL_ HB) : w.heap.size ≤ gb218)); replace HB := Aside0.mk (below_step (dL_ HB) hb); clear hb hbox hg; obtain ⟨hcz40_0, hcz40_1, hcz40_2, hcz40_3, hcz40_4, hcz40_5, hcz40_6, hcz40_7, hcz40_8, hcz40_9, hcz40_10, hcz40_11, hcz40_12, hcz40_13, hfz40_0, hfz40_1, hfz40_2, hfz40_3, hfz40_4, hfz40_5, hfz40_6, hfz40_7, hfz40_8, hfz40_9, hfz40_10, hfz40_11, hfz40_12, hfz40_13⟩ := cs14_ BK218.out) | (go_at_call 58; (with_reducible refine (hinterlandref10_Named.calls k a0_0 true _ A2.out).mono ?_); rintro e w' ⟨rfl, ⟨nd, rfl⟩⟩) | (go_at_call 42; (with_reducible refine (hinterlandref14_within.calls a0_1 0 3 true _ A4.out).mono ?_); rintro e w' ⟨rfl, ⟨nd, rfl⟩⟩) | (go_at_call 42; (with_reducible refine (hinterlandref14_within.calls a0_2 0 600 true _ A6.out).mono ?_); rintro e w' ⟨rfl, ⟨nd, rfl⟩⟩) | (go_at_call 42; (with_reducible refine (hinterlandref14_within.calls a0_3 0 20000 true _ A8.out).mono ?_); rintro e w' ⟨rfl, ⟨nd, rfl⟩⟩) | (go_at_call 42; (with_reducible refine (hinterlandref14_within.calls a0_4 1 1000 true _ A10.out).mono ?_); rintro e w' ⟨rfl, ⟨nd, rfl⟩⟩) | (go_at_call 42; (with_reducible refine (hinterlandref14_within.calls a0_5 0 2000 true _ A12.out).mono ?_); rintro e w' ⟨rfl, ⟨nd, rfl⟩⟩) | (go_at_call 42; (with_reducible refine (hinterlandref14_within.calls a0_6 (-1) 15 false _ A14.out).mono ?_); rintro e w' ⟨rfl, ⟨nd, rfl⟩⟩))
        go_ret
        exact ⟨tE_, dL1_ HB GE218⟩
      ·replace c13 := Bool.eq_false_iff.mpr c13
       subst c13
       have H1 : (some false) = some r := by rw [if_neg (show ¬ (false = true) by decide)] at H; exact H
       clear H
       have H := H1
       clear H1
       obtain rfl := Option.some.inj H
       go_enter Try.func38, Try.ntmps38
       go_wp2_with (first | ((with_reducible refine gate_dst (N := 1) rfl ?_); refine box_event ?hg (N := 1) ?hd (cs := #[.string a0_0, .int .i64 a0_1, .int .i64 a0_2, .int .i64 a0_3, .int .i64 a0_4, .int .i64 a0_5, .int .i64 a0_6, .int .i64 a0_7, .int .i64 a0_8, .int .i64 a0_9, .int .i64 a0_10, .int .i64 a0_11, .int .i64 a0_12, .bool a0_13]) (t := 54) ?hr ?_; (case hd => rfl); (case hg => rfl); (case hr => first | (go_simp; done) | (go_simp; rfl)); intro gb218 hg w41 hbox hb; have BK218 := Aside0.mk (hbox); have GW218 := Aside0.mk ((dS_ hg (dL_ HB) : w.heap.size ≤ gb218)); have GE218 := Aside0.mk ((dS_ hg (dL_ HB) : w.heap.size ≤ gb218)); replace HB := Aside0.mk (below_step (dL_ HB) hb); clear hb hbox hg; obtain ⟨hcz42_0, hcz42_1, hcz42_2, hcz42_3, hcz42_4, hcz42_5, hcz42_6, hcz42_7, hcz42_8, hcz42_9, hcz42_10, hcz42_11, hcz42_12, hcz42_13, hfz42_0, hfz42_1, hfz42_2, hfz42_3, hfz42_4, hfz42_5, hfz42_6, hfz42_7, hfz42_8, hfz42_9, hfz42_10, hfz42_11, hfz42_12, hfz42_13⟩ := cs14_ BK218.out) | (go_at_call 58; (with_reducible refine (hinterlandref10_Named.calls k a0_0 true _ A2.out).mono ?_); rintro e w' ⟨rfl, ⟨nd, rfl⟩⟩) | (go_at_call 42; (with_reducible refine (hinterlandref14_within.calls a0_1 0 3 true _ A4.out).mono ?_); rintro e w' ⟨rfl, ⟨nd, rfl⟩⟩) | (go_at_call 42; (with_reducible refine (hinterlandref14_within.calls a0_2 0 600 true _ A6.out).mono ?_); rintro e w' ⟨rfl, ⟨nd, rfl⟩⟩) | (go_at_call 42; (with_reducible refine (hinterlandref14_within.calls a0_3 0 20000 true _ A8.out).mono ?_); rintro e w' ⟨rfl, ⟨nd, rfl⟩⟩) | (go_at_call 42; (with_reducible refine (hinterlandref14_within.calls a0_4 1 1000 true _ A10.out).mono ?_); rintro e w' ⟨rfl, ⟨nd, rfl⟩⟩) | (go_at_call 42; (with_reducible refine (hinterlandref14_within.calls a0_5 0 2000 false _ A12.out).mono ?_); rintro e w' ⟨rfl, ⟨nd, rfl⟩⟩))
       go_ret
       exact ⟨tE_, dL1_ HB GE218⟩
     ·replace c11 := Bool.eq_false_iff.mpr c11
      subst c11
      have H1 : (some false) = some r := by rw [if_neg (show ¬ (false = true) by decide)] at H; exact H
      clear H
      have H := H1
      clear H1
      obtain rfl := Option.some.inj H
      go_enter Try.func38, Try.ntmps38
      go_wp2_with (first | ((with_reducible refine gate_dst (N := 1) rfl ?_); refine box_event ?hg (N := 1) ?hd (cs := #[.string a0_0, .int .i64 a0_1, .int .i64 a0_2, .int .i64 a0_3, .int .i64 a0_4, .int .i64 a0_5, .int .i64 a0_6, .int .i64 a0_7, .int .i64 a0_8, .int .i64 a0_9, .int .i64 a0_10, .int .i64 a0_11, .int .i64 a0_12, .bool a0_13]) (t := 54) ?hr ?_; (case hd => rfl); (case hg => rfl); (case hr => first | (go_simp; done) | (go_simp; rfl)); intro gb218 hg w43 hbox hb; have BK218 := Aside0.mk (hbox); have GW218 := Aside0.mk ((dS_ hg (dL_ HB) : w.heap.size ≤ gb218)); have GE218 := Aside0.mk ((dS_ hg (dL_ HB) : w.heap.size ≤ gb218)); replace HB := Aside0.mk (below_step (dL_ HB) hb); clear hb hbox hg; obtain ⟨hcz44_0, hcz44_1, hcz44_2, hcz44_3, hcz44_4, hcz44_5, hcz44_6, hcz44_7, hcz44_8, hcz44_9, hcz44_10, hcz44_11, hcz44_12, hcz44_13, hfz44_0, hfz44_1, hfz44_2, hfz44_3, hfz44_4, hfz44_5, hfz44_6, hfz44_7, hfz44_8, hfz44_9, hfz44_10, hfz44_11, hfz44_12, hfz44_13⟩ := cs14_ BK218.out) | (go_at_call 58; (with_reducible refine (hinterlandref10_Named.calls k a0_0 true _ A2.out).mono ?_); rintro e w' ⟨rfl, ⟨nd, rfl⟩⟩) | (go_at_call 42; (with_reducible refine (hinterlandref14_within.calls a0_1 0 3 true _ A4.out).mono ?_); rintro e w' ⟨rfl, ⟨nd, rfl⟩⟩) | (go_at_call 42; (with_reducible refine (hinterlandref14_within.calls a0_2 0 600 true _ A6.out).mono ?_); rintro e w' ⟨rfl, ⟨nd, rfl⟩⟩) | (go_at_call 42; (with_reducible refine (hinterlandref14_within.calls a0_3 0 20000 true _ A8.out).mono ?_); rintro e w' ⟨rfl, ⟨nd, rfl⟩⟩) | (go_at_call 42; (with_reducible refine (hinterlandref14_within.calls a0_4 1 1000 false _ A10.out).mono ?_); rintro e w' ⟨rfl, ⟨nd, rfl⟩⟩))
      go_ret
      exact ⟨tE_, dL1_ HB GE218⟩
    ·replace c9 := Bool.eq_false_iff.mpr c9
     subst c9
     have H1 : (some false) = some r := by rw [if_neg (show ¬ (false = true) by decide)] at H; exact H
     clear H
     have H := H1
     clear H1
     obtain rfl := Option.some.inj H
     go_enter Try.func38, Try.ntmps38
     go_wp2_with (first | ((with_reducible refine gate_dst (N := 1) rfl ?_); refine box_event ?hg (N := 1) ?hd (cs := #[.string a0_0, .int .i64 a0_1, .int .i64 a0_2, .int .i64 a0_3, .int .i64 a0_4, .int .i64 a0_5, .int .i64 a0_6, .int .i64 a0_7, .int .i64 a0_8, .int .i64 a0_9, .int .i64 a0_10, .int .i64 a0_11, .int .i64 a0_12, .bool a0_13]) (t := 54) ?hr ?_; (case hd => rfl); (case hg => rfl); (case hr => first | (go_simp; done) | (go_simp; rfl)); intro gb218 hg w45 hbox hb; have BK218 := Aside0.mk (hbox); have GW218 := Aside0.mk ((dS_ hg (dL_ HB) : w.heap.size ≤ gb218)); have GE218 := Aside0.mk ((dS_ hg (dL_ HB) : w.heap.size ≤ gb218)); replace HB := Aside0.mk (below_step (dL_ HB) hb); clear hb hbox hg; obtain ⟨hcz46_0, hcz46_1, hcz46_2, hcz46_3, hcz46_4, hcz46_5, hcz46_6, hcz46_7, hcz46_8, hcz46_9, hcz46_10, hcz46_11, hcz46_12, hcz46_13, hfz46_0, hfz46_1, hfz46_2, hfz46_3, hfz46_4, hfz46_5, hfz46_6, hfz46_7, hfz46_8, hfz46_9, hfz46_10, hfz46_11, hfz46_12, hfz46_13⟩ := cs14_ BK218.out) | (go_at_call 58; (with_reducible refine (hinterlandref10_Named.calls k a0_0 true _ A2.out).mono ?_); rintro e w' ⟨rfl, ⟨nd, rfl⟩⟩) | (go_at_call 42; (with_reducible refine (hinterlandref14_within.calls a0_1 0 3 true _ A4.out).mono ?_); rintro e w' ⟨rfl, ⟨nd, rfl⟩⟩) | (go_at_call 42; (with_reducible refine (hinterlandref14_within.calls a0_2 0 600 true _ A6.out).mono ?_); rintro e w' ⟨rfl, ⟨nd, rfl⟩⟩) | (go_at_call 42; (with_reducible refine (hinterlandref14_within.calls a0_3 0 20000 false _ A8.out).mono ?_); rintro e w' ⟨rfl, ⟨nd, rfl⟩⟩))
     go_ret
     exact ⟨tE_, dL1_ HB GE218⟩
   ·replace c7 := Bool.eq_false_iff.mpr c7
    subst c7
    have H1 : (some false) = some r := by rw [if_neg (show ¬ (false = true) by decide)] at H; exact H
    clear H
    have H := H1
    clear H1
    obtain rfl := Option.some.inj H
    go_enter Try.func38, Try.ntmps38
    go_wp2_with (first | ((with_reducible refine gate_dst (N := 1) rfl ?_); refine box_event ?hg (N := 1) ?hd (cs := #[.string a0_0, .int .i64 a0_1, .int .i64 a0_2, .int .i64 a0_3, .int .i64 a0_4, .int .i64 a0_5, .int .i64 a0_6, .int .i64 a0_7, .int .i64 a0_8, .int .i64 a0_9, .int .i64 a0_10, .int .i64 a0_11, .int .i64 a0_12, .bool a0_13]) (t := 54) ?hr ?_; (case hd => rfl); (case hg => rfl); (case hr => first | (go_simp; done) | (go_simp; rfl)); intro gb218 hg w47 hbox hb; have BK218 := Aside0.mk (hbox); have GW218 := Aside0.mk ((dS_ hg (dL_ HB) : w.heap.size ≤ gb218)); have GE218 := Aside0.mk ((dS_ hg (dL_ HB) : w.heap.size ≤ gb218)); replace HB := Aside0.mk (below_step (dL_ HB) hb); clear hb hbox hg; obtain ⟨hcz48_0, hcz48_1, hcz48_2, hcz48_3, hcz48_4, hcz48_5, hcz48_6, hcz48_7, hcz48_8, hcz48_9, hcz48_10, hcz48_11, hcz48_12, hcz48_13, hfz48_0, hfz48_1, hfz48_2, hfz48_3, hfz48_4, hfz48_5, hfz48_6, hfz48_7, hfz48_8, hfz48_9, hfz48_10, hfz48_11, hfz48_12, hfz48_13⟩ := cs14_ BK218.out) | (go_at_call 58; (with_reducible refine (hinterlandref10_Named.calls k a0_0 true _ A2.out).mono ?_); rintro e w' ⟨rfl, ⟨nd, rfl⟩⟩) | (go_at_call 42; (with_reducible refine (hinterlandref14_within.calls a0_1 0 3 true _ A4.out).mono ?_); rintro e w' ⟨rfl, ⟨nd, rfl⟩⟩) | (go_at_call 42; (with_reducible refine (hinterlandref14_within.calls a0_2 0 600 false _ A6.out).mono ?_); rintro e w' ⟨rfl, ⟨nd, rfl⟩⟩))
    go_ret
    exact ⟨tE_, dL1_ HB GE218⟩
  ·replace c5 := Bool.eq_false_iff.mpr c5
   subst c5
   have H1 : (some false) = some r := by rw [if_neg (show ¬ (false = true) by decide)] at H; exact H
   clear H
   have H := H1
   clear H1
   obtain rfl := Option.some.inj H
   go_enter Try.func38, Try.ntmps38
   go_wp2_with (first | ((with_reducible refine gate_dst (N := 1) rfl ?_); refine box_event ?hg (N := 1) ?hd (cs := #[.string a0_0, .int .i64 a0_1, .int .i64 a0_2, .int .i64 a0_3, .int .i64 a0_4, .int .i64 a0_5, .int .i64 a0_6, .int .i64 a0_7, .int .i64 a0_8, .int .i64 a0_9, .int .i64 a0_10, .int .i64 a0_11, .int .i64 a0_12, .bool a0_13]) (t := 54) ?hr ?_; (case hd => rfl); (case hg => rfl); (case hr => first | (go_simp; done) | (go_simp; rfl)); intro gb218 hg w49 hbox hb; have BK218 := Aside0.mk (hbox); have GW218 := Aside0.mk ((dS_ hg (dL_ HB) : w.heap.size ≤ gb218)); have GE218 := Aside0.mk ((dS_ hg (dL_ HB) : w.heap.size ≤ gb218)); replace HB := Aside0.mk (below_step (dL_ HB) hb); clear hb hbox hg; obtain ⟨hcz50_0, hcz50_1, hcz50_2, hcz50_3, hcz50_4, hcz50_5, hcz50_6, hcz50_7, hcz50_8, hcz50_9, hcz50_10, hcz50_11, hcz50_12, hcz50_13, hfz50_0, hfz50_1, hfz50_2, hfz50_3, hfz50_4, hfz50_5, hfz50_6, hfz50_7, hfz50_8, hfz50_9, hfz50_10, hfz50_11, hfz50_12, hfz50_13⟩ := cs14_ BK218.out) | (go_at_call 58; (with_reducible refine (hinterlandref10_Named.calls k a0_0 true _ A2.out).mono ?_); rintro e w' ⟨rfl, ⟨nd, rfl⟩⟩) | (go_at_call 42; (with_reducible refine (hinterlandref14_within.calls a0_1 0 3 false _ A4.out).mono ?_); rintro e w' ⟨rfl, ⟨nd, rfl⟩⟩))
   go_ret
   exact ⟨tE_, dL1_ HB GE218⟩
 ·replace c3 := Bool.eq_false_iff.mpr c3
  subst c3
  have H1 : (some false) = some r := by rw [if_neg (show ¬ (false = true) by decide)] at H; exact H
  clear H
  have H := H1
  clear H1
  obtain rfl := Option.some.inj H
  go_enter Try.func38, Try.ntmps38
  go_wp2_with (first | ((with_reducible refine gate_dst (N := 1) rfl ?_); refine box_event ?hg (N := 1) ?hd (cs := #[.string a0_0, .int .i64 a0_1, .int .i64 a0_2, .int .i64 a0_3, .int .i64 a0_4, .int .i64 a0_5, .int .i64 a0_6, .int .i64 a0_7, .int .i64 a0_8, .int .i64 a0_9, .int .i64 a0_10, .int .i64 a0_11, .int .i64 a0_12, .bool a0_13]) (t := 54) ?hr ?_; (case hd => rfl); (case hg => rfl); (case hr => first | (go_simp; done) | (go_simp; rfl)); intro gb218 hg w51 hbox hb; have BK218 := Aside0.mk (hbox); have GW218 := Aside0.mk ((dS_ hg (dL_ HB) : w.heap.size ≤ gb218)); have GE218 := Aside0.mk ((dS_ hg (dL_ HB) : w.heap.size ≤ gb218)); replace HB := Aside0.mk (below_step (dL_ HB) hb); clear hb hbox hg; obtain ⟨hcz52_0, hcz52_1, hcz52_2, hcz52_3, hcz52_4, hcz52_5, hcz52_6, hcz52_7, hcz52_8, hcz52_9, hcz52_10, hcz52_11, hcz52_12, hcz52_13, hfz52_0, hfz52_1, hfz52_2, hfz52_3, hfz52_4, hfz52_5, hfz52_6, hfz52_7, hfz52_8, hfz52_9, hfz52_10, hfz52_11, hfz52_12, hfz52_13⟩ := cs14_ BK218.out) | (go_at_call 58; (with_reducible refine (hinterlandref10_Named.calls k a0_0 false _ A2.out).mono ?_); rintro e w' ⟨rfl, ⟨nd, rfl⟩⟩))
  go_ret
  exact ⟨tE_, dL1_ HB GE218⟩

end Go.Proofs.Ytgnahbjpockdmaa.Q
