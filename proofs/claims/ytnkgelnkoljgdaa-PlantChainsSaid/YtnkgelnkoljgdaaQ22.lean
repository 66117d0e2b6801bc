-- PRINTED by print.py (a twelfth state) out of the translation. Not trusted: Lean checks it.
import Derived.Test.YtnkgelnkoljgdaaPrs
import Derived.Test.YtnkgelnkoljgdaaQ0
import Derived.Test.YtnkgelnkoljgdaaQ1
import Derived.Test.YtnkgelnkoljgdaaQ13
import Derived.Test.YtnkgelnkoljgdaaQ14
import Derived.Test.YtnkgelnkoljgdaaQ15
import Derived.Test.YtnkgelnkoljgdaaQ21
namespace Go.Proofs.Ytnkgelnkoljgdaa.Q
open Go.RowKit Go.Proofs.YtnkgelnkoljgdaaPrs Go.Proofs.YtnkgelnkoljgdaaOwn Go.Proofs.YtnkgelnkoljgdaaW.PrintWords Go.Proofs.YtnkgelnkoljgdaaW.PrintLast Go.Proofs.YtnkgelnkoljgdaaW.PrintMore
attribute [local go_sem] max2_int min2_int max_two min_two max_three min_three max_four min_four   -- for this text's walks alone
set_option linter.unusedVariables false
set_option linter.unusedSimpArgs false

/-! ### hinterlandlaw10_PlantChains: function 10 -/
def hinterlandlaw10_PlantChains.f (k : Nat) (l0 : List (S39)) (a1 : Int) : Option (Bool) := (hinterlandlaw10_large.f k l0 0 0 0 ([] : List Int) ([] : List Int) ([] : List Int) ([] : List Int) 0 0 false).bind fun t283 => (if t283 = true then ((hinterlandlaw10_known.f k).bind fun t284 => (some t284)) else ((plant_Chains.f k l0 a1).bind fun bt285 => ((hinterlandref10_Chains.f k l0 a1).bind fun bt292 => (if bt285.2.2 = bt292.2.2 then ((hinterlandsame_List_int.f k bt285.1 bt292.1).bind fun t299 => (if t299 = true then ((hinterlandsame_List_int.f k bt285.2.1 bt292.2.1).bind fun t300 => (if t300 = true then ((hinterlandlaw10_known.f k).bind fun t301 => (some t301)) else (some false))) else (some false))) else (some false)))))
theorem hinterlandlaw10_PlantChains.mono : ∀ a0 a1 k, LeO (hinterlandlaw10_PlantChains.f k a0 a1) (hinterlandlaw10_PlantChains.f (k + 1) a0 a1) := by
  intro a0 a1 k
  unfold hinterlandlaw10_PlantChains.f
  repeat' first
      | (with_reducible first | exact hinterlandlaw10_known.mono _ | exact hinterlandlaw10_large.mono _ _ _ _ _ _ _ _ _ _ _ _ | exact hinterlandref10_Chains.mono _ _ _ | exact hinterlandsame_List_int.mono _ _ _ | exact plant_Chains.mono _ _ _ | exact LeO.refl _ | exact LeO.none _ | refine LeO.ite ?_ ?_ | refine LeO.bind ?_ (fun _ => ?_))
      | exact hinterlandlaw10_known.mono _
      | exact hinterlandlaw10_large.mono _ _ _ _ _ _ _ _ _ _ _ _
      | exact hinterlandref10_Chains.mono _ _ _
      | exact hinterlandsame_List_int.mono _ _ _
      | exact plant_Chains.mono _ _ _
      | exact LeO.none _
      | refine LeO.ite ?_ ?_
      | refine LeO.bind ?_ (fun _ => ?_)
set_option maxHeartbeats 8000000 in
set_option maxRecDepth 100000 in
theorem hinterlandlaw10_PlantChains.calls (k : Nat) (A0 : Option Addr) (c0 : Nat) (l0 : List (S39)) (a1 : Int) (r : Bool) (w : World) (hr0 : Kd.C k39 w A0 l0.length l0) (hc0 : l0.length ≤ c0) (h : hinterlandlaw10_PlantChains.f k l0 a1 = some r) :
    Calls Try.prog 10 #[.slice A0 l0.length c0, .int .i64 a1] w fun e w' => e = .returned (.bool r) ∧ Below w.heap.size w w' := by
 have hu25 := Try.underlying25
 have HR0 := Aside0.mk hr0
 have HC0 := Aside0.mk hc0
 clear hr0 hc0
 have HB := Aside0.mk (Below.refl w.heap.size w)
 have H : ((hinterlandlaw10_large.f k l0 0 0 0 ([] : List Int) ([] : List Int) ([] : List Int) ([] : List Int) 0 0 false).bind fun t283 => (if t283 = true then ((hinterlandlaw10_known.f k).bind fun t284 => (some t284)) else ((plant_Chains.f k l0 a1).bind fun bt285 => ((hinterlandref10_Chains.f k l0 a1).bind fun bt292 => (if bt285.2.2 = bt292.2.2 then ((hinterlandsame_List_int.f k bt285.1 bt292.1).bind fun t299 => (if t299 = true then ((hinterlandsame_List_int.f k bt285.2.1 bt292.2.1).bind fun t300 => (if t300 = true then ((hinterlandlaw10_known.f k).bind fun t301 => (some t301)) else (some false))) else (some false))) else (some false)))))) = some r := h
 clear h
 replace H := Option.bind_eq_some_iff.mp H
 obtain ⟨t283, A30, H⟩ := H
 replace H : (if t283 = true then ((hinterlandlaw10_known.f k).bind fun t284 => (some t284)) else ((plant_Chains.f k l0 a1).bind fun bt285 => ((hinterlandref10_Chains.f k l0 a1).bind fun bt292 => (if bt285.2.2 = bt292.2.2 then ((hinterlandsame_List_int.f k bt285.1 bt292.1).bind fun t299 => (if t299 = true then ((hinterlandsame_List_int.f k bt285.2.1 bt292.2.1).bind fun t300 => (if t300 = true then ((hinterlandlaw10_known.f k).bind fun t301 => (some t301)) else (some false))) else (some false))) else (some false))))) = some r := H
 have A3 := Aside0.mk A30
 clear A30
 by_cases c4 : t283 = true
 ·subst c4
  have H1 : ((hinterlandlaw10_known.f k).bind fun t284 => (some t284)) = some r := by rw [if_pos rfl] at H; exact H
  clear H
  have H := H1
  clear H1
  replace H := Option.bind_eq_some_iff.mp H
  obtain ⟨t284, A50, H⟩ := H
  replace H : (some t284) = some r := H
  have A5 := Aside0.mk A50
  clear A50
  obtain rfl := Option.some.inj H
  go_enter Try.func10, Try.ntmps10
  go_wp2_with (first | ((with_reducible refine gate_callee (f := 13) rfl ?_); refine goesL_ (some 13) rfl rfl Try.func13 (by kernel_rfl) rfl #[.slice A0 l0.length c0, .agg #[.int .i64 0, .int .i64 0, .int .i64 0, .slice none 0 0, .slice none 0 0, .slice none 0 0, .slice none 0 0, .int .i64 0, .int .i64 0, .bool false]] rfl tA_ ?_; (refine (hinterlandlaw10_large.calls k _ _ l0 0 0 0 _ _ ([] : List Int) _ _ ([] : List Int) _ _ ([] : List Int) _ _ ([] : List Int) 0 0 false true _ ?side1 ?side2 ?side3 ?side4 ?side5 ?side6 ?side7 ?side8 ?side9 ?side10 A3.out).mono ?_); (case side1 => repeat (first | exact HR0.out | (with_reducible refine Kd.C_alloc ?_ _) | (with_reducible refine Kd.C_drewN ?_ _) | (with_reducible refine Kd.C_drew ?_))); (case side2 => exact HC0.out); (case side3 => exact Kd.C_nil _ _); (case side4 => exact Nat.le_refl _); (case side5 => exact Kd.C_nil _ _); (case side6 => exact Nat.le_refl _); (case side7 => exact Kd.C_nil _ _); (case side8 => exact Nat.le_refl _); (case side9 => exact Kd.C_nil _ _); (case side10 => exact Nat.le_refl _); rintro e w6 ⟨rfl, hb⟩; refine ⟨_, rfl, ?_⟩; replace HB := Aside0.mk (below_step (dL_ HB) hb)) | ((with_reducible refine gate_callee (f := 14) rfl ?_); refine goesL_ (some 14) rfl rfl Try.func14 (by kernel_rfl) rfl #[] rfl tA_ ?_; (with_reducible refine (hinterlandlaw10_known.calls k  t284 _ A5.out).mono ?_); rintro e w7 ⟨rfl, hb⟩; refine ⟨_, rfl, ?_⟩; replace HB := Aside0.mk (below_step (dL_ HB) hb)))
  go_ret
  exact ⟨tE_, dL_ HB⟩
 ·replace c4 := Bool.eq_false_iff.mpr c4
  subst c4
  have H1 : ((plant_Chains.f k l0 a1).bind fun bt285 => ((hinterlandref10_Chains.f k l0 a1).bind fun bt292 => (if bt285.2.2 = bt292.2.2 then ((hinterlandsame_List_int.f k bt285.1 bt292.1).bind fun t299 => (if t299 = true then ((hinterlandsame_List_int.f k bt285.2.1 bt292.2.1).bind fun t300 => (if t300 = true then ((hinterlandlaw10_known.f k).bind fun t301 => (some t301)) else (some false))) else (some false))) else (some false)))) = some r := by rw [if_neg (show ¬ (false = true) by decide)] at H; exact H
  clear H
  have H := H1
  clear H1
  replace H := Option.bind_eq_some_iff.mp H
  obtain ⟨⟨t285, t286, t287⟩, A80, H⟩ := H
  replace H : ((hinterlandref10_Chains.f k l0 a1).bind fun bt292 => (if t287 = bt292.2.2 then ((hinterlandsame_List_int.f k t285 bt292.1).bind fun t299 => (if t299 = true then ((hinterlandsame_List_int.f k t286 bt292.2.1).bind fun t300 => (if t300 = true then ((hinterlandlaw10_known.f k).bind fun t301 => (some t301)) else (some false))) else (some false))) else (some false))) = some r := H
  have A8 := Aside0.mk A80
  clear A80
  replace H := Option.bind_eq_some_iff.mp H
  obtain ⟨⟨t292, t293, t294⟩, A90, H⟩ := H
  replace H : (if t287 = t294 then ((hinterlandsame_List_int.f k t285 t292).bind fun t299 => (if t299 = true then ((hinterlandsame_List_int.f k t286 t293).bind fun t300 => (if t300 = true then ((hinterlandlaw10_known.f k).bind fun t301 => (some t301)) else (some false))) else (some false))) else (some false)) = some r := H
  have A9 := Aside0.mk A90
  clear A90
  by_cases c10 : t287 = t294
  ·rw [if_pos c10] at H
   have c10b0 : (t287 == t294) = true := beq_iff_eq.mpr c10
   have c10b1 : (t287 != t294) = false := bne_eq_false_iff_eq.mpr c10
   clear c10
   replace H := Option.bind_eq_some_iff.mp H
   obtain ⟨t299, A110, H⟩ := H
   replace H : (if t299 = true then ((hinterlandsame_List_int.f k t286 t293).bind fun t300 => (if t300 = true then ((hinterlandlaw10_known.f k).bind fun t301 => (some t301)) else (some false))) else (some false)) = some r := H
   have A11 := Aside0.mk A110
   clear A110
   by_cases c12 : t299 = true
   ·subst c12
    have H1 : ((hinterlandsame_List_int.f k t286 t293).bind fun t300 => (if t300 = true then ((hinterlandlaw10_known.f k).bind fun t301 => (some t301)) else (some false))) = some r := by rw [if_pos rfl] at H; exact H
    clear H
    have H := H1
    clear H1
    replace H := Option.bind_eq_some_iff.mp H
    obtain ⟨t300, A130, H⟩ := H
    replace H : (if t300 = true then ((hinterlandlaw10_known.f k).bind fun t301 => (some t301)) else (some false)) = some r := H
    have A13 := Aside0.mk A130
    clear A130
    by_cases c14 : t300 = true
    ·subst c14
     have H1 : ((hinterlandlaw10_known.f k).bind fun t301 => (some t301)) = some r := by rw [if_pos rfl] at H; exact H
     clear H
     have H := H1
     clear H1
     replace H := Option.bind_eq_some_iff.mp H
     obtain ⟨t301, A150, H⟩ := H
     replace H : (some t301) = some r := H
     have A15 := Aside0.mk A150
     clear A150
     obtain rfl := Option.some.inj H
     go_enter Try.func10, Try.ntmps10
     go_wp2_with (first | ((with_reducible refine gate_callee (f := 13) rfl ?_); refine goesL_ (some 13) rfl rfl Try.func13 (by kernel_rfl) rfl #[.slice A0 l0.length c0, .agg #[.int .i64 0, .int .i64 0, .int .i64 0, .slice none 0 0, .slice none 0 0, .slice none 0 0, .slice none 0 0, .int .i64 0, .int .i64 0, .bool false]] rfl tA_ ?_; (refine (hinterlandlaw10_large.calls k _ _ l0 0 0 0 _ _ ([] : List Int) _ _ ([] : List Int) _ _ ([] : List Int) _ _ ([] : List Int) 0 0 false false _ ?side1 ?side2 ?side3 ?side4 ?side5 ?side6 ?side7 ?side8 ?side9 ?side10 A3.out).mono ?_); (case side1 => repeat (first | exact HR0.out | (with_reducible refine Kd.C_alloc ?_ _) | (with_reducible refine Kd.C_drewN ?_ _) | (with_reducible refine Kd.C_drew ?_))); (case side2 => exact HC0.out); (case side3 => exact Kd.C_nil _ _); (case side4 => exact Nat.le_refl _); (case side5 => exact Kd.C_nil _ _); (case side6 => exact Nat.le_refl _); (case side7 => exact Kd.C_nil _ _); (case side8 => exact Nat.le_refl _); (case side9 => exact Kd.C_nil _ _); (case side10 => exact Nat.le_refl _); rintro e w16 ⟨rfl, hb⟩; refine ⟨_, rfl, ?_⟩; replace HB := Aside0.mk (below_step (dL_ HB) hb)) | ((with_reducible refine gate_callee (f := 28) rfl ?_); refine goesL_ (some 18) rfl rfl Try.func28 (by kernel_rfl) rfl #[.slice A0 l0.length c0, .int .i64 a1] rfl tA_ ?_; (with_reducible refine (plant_Chains.calls k _ _ l0 a1 t285 t286 t287 _ ?side1 ?side2 A8.out).mono ?_); (case side1 => exact dC_ HR0 HB); (case side2 => exact HC0.out); rintro e w17 ⟨v288, v290, rfl, ho0, ho1, hb⟩; refine ⟨_, rfl, ?_⟩; have HO289 := Aside0.mk (Kd.R_lower ho0 (below_size (dL_ HB))); have HO291 := Aside0.mk (Kd.R_lower ho1 (below_size (dL_ HB))); replace HB := Aside0.mk (below_step (dL_ HB) hb)) | ((with_reducible refine gate_callee (f := 29) rfl ?_); refine goesL_ (some 25) rfl rfl Try.func29 (by kernel_rfl) rfl #[.slice A0 l0.length c0, .int .i64 a1] rfl tA_ ?_; (with_reducible refine (hinterlandref10_Chains.calls k _ _ l0 a1 t292 t293 t294 _ ?side1 ?side2 A9.out).mono ?_); (case side1 => exact dC_ HR0 HB); (case side2 => exact HC0.out); rintro e w18 ⟨v295, v297, rfl, ho0, ho1, hb⟩; refine ⟨_, rfl, ?_⟩; have HO296 := Aside0.mk (Kd.R_lower (Kd.R_new' (Kd.R_new' ho0 (Kd.R_lt (dR_ HO289))) (Kd.R_lt (dR_ HO291))) (below_size (dL_ HB))); have HO298 := Aside0.mk (Kd.R_lower (Kd.R_new' (Kd.R_new' ho1 (Kd.R_lt (dR_ HO289))) (Kd.R_lt (dR_ HO291))) (below_size (dL_ HB))); replace HO289 := Aside0.mk (Kd.R_mono (Kd.R_told (Kd.R_told (Kd.R_old (dR_ HO289) hb) (Kd.R_base ho0)) (Kd.R_base ho1)) (fun _ h_ => h_.1)); replace HO291 := Aside0.mk (Kd.R_mono (Kd.R_told (Kd.R_told (Kd.R_old (dR_ HO291) hb) (Kd.R_base ho0)) (Kd.R_base ho1)) (fun _ h_ => h_.1)); replace HB := Aside0.mk (below_step (dL_ HB) hb); obtain ⟨Ao19, co19, eo19⟩ := Kd.R_slice HO289.out; subst eo19; obtain ⟨Ao20, co20, eo20⟩ := Kd.R_slice HO296.out; subst eo20) | (go_at_call 25; (with_reducible refine (hinterlandsame_List_int.calls k _ _ t285 _ _ t292 true _ ?side1 ?side2 ?side3 ?side4 A11.out).mono ?_); (case side1 => repeat (first | exact (Kd.R_reads' HO289.out).2.2 | (with_reducible refine Kd.C_alloc ?_ _) | (with_reducible refine Kd.C_drewN ?_ _) | (with_reducible refine Kd.C_drew ?_))); (case side2 => exact (Kd.R_reads' HO289.out).2.1); (case side3 => repeat (first | exact (Kd.R_reads' HO296.out).2.2 | (with_reducible refine Kd.C_alloc ?_ _) | (with_reducible refine Kd.C_drewN ?_ _) | (with_reducible refine Kd.C_drew ?_))); (case side4 => exact (Kd.R_reads' HO296.out).2.1); rintro e w' ⟨rfl, ⟨nd, rfl⟩⟩; obtain ⟨Ao21, co21, eo21⟩ := Kd.R_slice HO291.out; subst eo21; obtain ⟨Ao22, co22, eo22⟩ := Kd.R_slice HO298.out; subst eo22) | (go_at_call 25; (with_reducible refine (hinterlandsame_List_int.calls k _ _ t286 _ _ t293 true _ ?side1 ?side2 ?side3 ?side4 A13.out).mono ?_); (case side1 => repeat (first | exact (Kd.R_reads' HO291.out).2.2 | (with_reducible refine Kd.C_alloc ?_ _) | (with_reducible refine Kd.C_drewN ?_ _) | (with_reducible refine Kd.C_drew ?_))); (case side2 => exact (Kd.R_reads' HO291.out).2.1); (case side3 => repeat (first | exact (Kd.R_reads' HO298.out).2.2 | (with_reducible refine Kd.C_alloc ?_ _) | (with_reducible refine Kd.C_drewN ?_ _) | (with_reducible refine Kd.C_drew ?_))); (case side4 => exact (Kd.R_reads' HO298.out).2.1); rintro e w' ⟨rfl, ⟨nd, rfl⟩⟩) | (go_at_call 14; (with_reducible refine (hinterlandlaw10_known.calls k  t301 _ A15.out).mono ?_); rintro e w23 ⟨rfl, hb⟩; replace HO289 := Aside0.mk (Kd.R_below (dR_ HO289) hb); replace HO291 := Aside0.mk (Kd.R_below (dR_ HO291) hb); replace HO296 := Aside0.mk (Kd.R_below (dR_ HO296) hb); replace HO298 := Aside0.mk (Kd.R_below (dR_ HO298) hb); replace HB := Aside0.mk (below_step (dL_ HB) hb)))
     go_ret
     exact ⟨tE_, dL_ HB⟩
    ·replace c14 := Bool.eq_false_iff.mpr c14
     subst c14
     have H1 : (some false) = some r := by rw [if_neg (show ¬ (false = true) by decide)] at H; exact H
     clear H
     have H := H1
     clear H1
     obtain rfl := Option.some.inj H
     go_enter Try.func10, Try.ntmps10
     go_wp2_with (first | ((with_reducible refine gate_callee (f := 13) rfl ?_); refine goesL_ (some 13) rfl rfl Try.func13 (by kernel_rfl) rfl #[.slice A0 l0.length c0, .agg #[.int .i64 0, .int .i64 0, .int .i64 0, .slice none 0 0, .slice none 0 0, .slice none 0 0, .slice none 0 0, .int .i64 0, .int .i64 0, .bool false]] rfl tA_ ?_; (refine (hinterlandlaw10_large.calls k _ _ l0 0 0 0 _ _ ([] : List Int) _ _ ([] : List Int) _ _ ([] : List Int) _ _ ([] : List Int) 0 0 false false _ ?side1 ?side2 ?side3 ?side4 ?side5 ?side6 ?side7 ?side8 ?side9 ?side10 A3.out).mono ?_); (case side1 => repeat (first | exact HR0.out | (with_reducible refine Kd.C_alloc ?_ _) | (with_reducible refine Kd.C_drewN ?_ _) | (with_reducible refine Kd.C_drew ?_))); (case side2 => exact HC0.out); (case side3 => exact Kd.C_nil _ _); (case side4 => exact Nat.le_refl _); (case side5 => exact Kd.C_nil _ _); (case side6 => exact Nat.le_refl _); (case side7 => exact Kd.C_nil _ _); (case side8 => exact Nat.le_refl _); (case side9 => exact Kd.C_nil _ _); (case side10 => exact Nat.le_refl _); rintro e w24 ⟨rfl, hb⟩; refine ⟨_, rfl, ?_⟩; replace HB := Aside0.mk (below_step (dL_ HB) hb)) | ((with_reducible refine gate_callee (f := 28) rfl ?_); refine goesL_ (some 18) rfl rfl Try.func28 (by kernel_rfl) rfl #[.slice A0 l0.length c0, .int .i64 a1] rfl tA_ ?_; (with_reducible refine (plant_Chains.calls k _ _ l0 a1 t285 t286 t287 _ ?side1 ?side2 A8.out).mono ?_); (case side1 => exact dC_ HR0 HB); (case side2 => exact HC0.out); rintro e w25 ⟨v288, v290, rfl, ho0, ho1, hb⟩; refine ⟨_, rfl, ?_⟩; have HO289 := Aside0.mk (Kd.R_lower ho0 (below_size (dL_ HB))); have HO291 := Aside0.mk (Kd.R_lower ho1 (below_size (dL_ HB))); replace HB := Aside0.mk (below_step (dL_ HB) hb)) | ((with_reducible refine gate_callee (f := 29) rfl ?_); refine goesL_ (some 25) rfl rfl Try.func29 (by kernel_rfl) rfl #[.slice A0 l0.length c0, .int .i64 a1] rfl tA_ ?_; (with_reducible refine (hinterlandref10_Chains.calls k _ _ l0 a1 t292 t293 t294 _ ?side1 ?side2 A9.out).mono ?_); (case side1 => exact dC_ HR0 HB); (case side2 => exact HC0.out); rintro e w26 ⟨v295, v297, rfl, ho0, ho1, hb⟩; refine ⟨_, rfl, ?_⟩; have HO296 := Aside0.mk (Kd.R_lower (Kd.R_new' (Kd.R_new' ho0 (Kd.R_lt (dR_ HO289))) (Kd.R_lt (dR_ HO291))) (below_size (dL_ HB))); have HO298 := Aside0.mk (Kd.R_lower (Kd.R_new' (Kd.R_new' ho1 (Kd.R_lt (dR_ HO289))) (Kd.R_lt (dR_ HO291))) (below_size (dL_ HB))); replace HO289 := Aside0.mk (Kd.R_mono (Kd.R_told (Kd.R_told (Kd.R_old (dR_ HO289) hb) (Kd.R_base ho0)) (Kd.R_base ho1)) (fun _ h_ => h_.1)); replace HO291 := Aside0.mk (Kd.R_mono (Kd.R_told (Kd.R_told (Kd.R_old (dR_ HO291) hb) (Kd.R_base ho0)) (Kd.R_base ho1)) (fun _ h_ => h_.1)); replace HB := Aside0.mk (below_step (dL_ HB) hb); obtain ⟨Ao27, co27, eo27⟩ := Kd.R_slice HO289.out; subst eo27; obtain ⟨Ao28, co28, eo28⟩ := Kd.R_slice HO296.out; subst eo28) | (go_at_call 25; (with_reducible refine (hinterlandsame_List_int.calls k _ _ t285 _ _ t292 true _ ?side1 ?side2 ?side3 ?side4 A11.out).mono ?_); (case side1 => repeat (first | exact (Kd.R_reads' HO289.out).2.2 | (with_reducible refine Kd.C_alloc ?_ _) | (with_reducible refine Kd.C_drewN ?_ _) | (with_reducible refine Kd.C_drew ?_))); (case side2 => exact (Kd.R_reads' HO289.out).2.1); (case side3 => repeat (first | exact (Kd.R_reads' HO296.out).2.2 | (with_reducible refine Kd.C_alloc ?_ _) | (with_reducible refine Kd.C_drewN ?_ _) | (with_reducible refine Kd.C_drew ?_))); (case side4 => exact (Kd.R_reads' HO296.out).2.1); rintro e w' ⟨rfl, ⟨nd, rfl⟩⟩; obtain ⟨Ao29, co29, eo29⟩ := Kd.R_slice HO291.out; subst eo29; obtain ⟨Ao30, co30, eo30⟩ := Kd.R_slice HO298.out; subst eo30) | (go_at_call 25; (with_reducible refine (hinterlandsame_List_int.calls k _ _ t286 _ _ t293 false _ ?side1 ?side2 ?side3 ?side4 A13.out).mono ?_); (case side1 => repeat (first | exact (Kd.R_reads' HO291.out).2.2 | (with_reducible refine Kd.C_alloc ?_ _) | (with_reducible refine Kd.C_drewN ?_ _) | (with_reducible refine Kd.C_drew ?_))); (case side2 => exact (Kd.R_reads' HO291.out).2.1); (case side3 => repeat (first | exact (Kd.R_reads' HO298.out).2.2 | (with_reducible refine Kd.C_alloc ?_ _) | (with_reducible refine Kd.C_drewN ?_ _) | (with_reducible refine Kd.C_drew ?_))); (case side4 => exact (Kd.R_reads' HO298.out).2.1); rintro e w' ⟨rfl, ⟨nd, rfl⟩⟩))
     go_ret
     exact ⟨tE_, dL_ HB⟩
   ·replace c12 := Bool.eq_false_iff.mpr c12
    subst c12
    have H1 : (some false) = some r := by rw [if_neg (show ¬ (false = true) by decide)] at H; exact H
    clear H
    have H := H1
    clear H1
    obtain rfl := Option.some.inj H
    go_enter Try.func10, Try.ntmps10
    go_wp2_with (first | ((with_reducible refine gate_callee (f := 13) rfl ?_); refine goesL_ (some 13) rfl rfl Try.func13 (by kernel_rfl) rfl #[.slice A0 l0.length c0, .agg #[.int .i64 0, .int .i64 0, .int .i64 0, .slice none 0 0, .slice none 0 0, .slice none 0 0, .slice none 0 0, .int .i64 0, .int .i64 0, .bool false]] rfl tA_ ?_; (refine (hinterlandlaw10_large.calls k _ _ l0 0 0 0 _ _ ([] : List Int) _ _ ([] : List Int) _ _ ([] : List Int) _ _ ([] : List Int) 0 0 false false _ ?side1 ?side2 ?side3 ?side4 ?side5 ?side6 ?side7 ?side8 ?side9 ?side10 A3.out).mono ?_); (case side1 => repeat (first | exact HR0.out | (with_reducible refine Kd.C_alloc ?_ _) | (with_reducible refine Kd.C_drewN ?_ _) | (with_reducible refine Kd.C_drew ?_))); (case side2 => exact HC0.out); (case side3 => exact Kd.C_nil _ _); (case side4 => exact Nat.le_refl _); (case side5 => exact Kd.C_nil _ _); (case side6 => exact Nat.le_refl _); (case side7 => exact Kd.C_nil _ _); (case side8 => exact Nat.le_refl _); (case side9 => exact Kd.C_nil _ _); (case side10 => exact Nat.le_refl _); rintro e w31 ⟨rfl, hb⟩; refine ⟨_, rfl, ?_⟩; replace HB := Aside0.mk (below_step (dL_ HB) hb)) | ((with_reducible refine gate_callee (f := 28) rfl ?_); refine goesL_ (some 18) rfl rfl Try.func28 (by kernel_rfl) rfl #[.slice A0 l0.length c0, .int .i64 a1] rfl tA_ ?_; (with_reducible refine (plant_Chains.calls k _ _ l0 a1 t285 t286 t287 _ ?side1 ?side2 A8.out).mono ?_); (case side1 => exact dC_ HR0 HB); (case side2 => exact HC0.out); rintro e w32 ⟨v288, v290, rfl, ho0, ho1, hb⟩; refine ⟨_, rfl, ?_⟩; have HO289 := Aside0.mk (Kd.R_lower ho0 (below_size (dL_ HB))); have HO291 := Aside0.mk (Kd.R_lower ho1 (below_size (dL_ HB))); replace HB := Aside0.mk (below_step (dL_ HB) hb)) | ((with_reducible refine gate_callee (f := 29) rfl ?_); refine goesL_ (some 25) rfl rfl Try.func29 (by kernel_rfl) rfl #[.slice A0 l0.length c0, .int .i64 a1] rfl tA_ ?_; (with_reducible refine (hinterlandref10_Chains.calls k _ _ l0 a1 t292 t293 t294 _ ?side1 ?side2 A9.out).mono ?_); (case side1 => exact dC_ HR0 HB); (case side2 => exact HC0.out); rintro e w33 ⟨v295, v297, rfl, ho0, ho1, hb⟩; refine ⟨_, rfl, ?_⟩; have HO296 := Aside0.mk (Kd.R_lower (Kd.R_new' (Kd.R_new' ho0 (Kd.R_lt (dR_ HO289))) (Kd.R_lt (dR_ HO291))) (below_size (dL_ HB))); have HO298 := Aside0.mk (Kd.R_lower (Kd.R_new' (Kd.R_new' ho1 (Kd.R_lt (dR_ HO289))) (Kd.R_lt (dR_ HO291))) (below_size (dL_ HB))); replace HO289 := Aside0.mk (Kd.R_mono (Kd.R_told (Kd.R_told (Kd.R_old (dR_ HO289) hb) (Kd.R_base ho0)) (Kd.R_base ho1)) (fun _ h_ => h_.1)); replace HO291 := Aside0.mk (Kd.R_mono (Kd.R_told (Kd.R_told (Kd.R_old (dR_ HO291) hb) (Kd.R_base ho0)) (Kd.R_base ho1)) (fun _ h_ => h_.1)); replace HB := Aside0.mk (below_step (dL_ HB) hb); obtain ⟨Ao34, co34, eo34⟩ := Kd.R_slice HO289.out; subst eo34; obtain ⟨Ao35, co35, eo35⟩ := Kd.R_slice HO296.out; subst eo35) | (go_at_call 25; (with_reducible refine (hinterlandsame_List_int.calls k _ _ t285 _ _ t292 false _ ?side1 ?side2 ?side3 ?side4 A11.out).mono ?_); (case side1 => repeat (first | exact (Kd.R_reads' HO289.out).2.2 | (with_reducible refine Kd.C_alloc ?_ _) | (with_reducible refine Kd.C_drewN ?_ _) | (with_reducible refine Kd.C_drew ?_))); (case side2 => exact (Kd.R_reads' HO289.out).2.1); (case side3 => repeat (first | exact (Kd.R_reads' HO296.out).2.2 | (with_reducible refine Kd.C_alloc ?_ _) | (with_reducible refine Kd.C_drewN ?_ _) | (with_reducible refine Kd.C_drew ?_))); (case side4 => exact (Kd.R_reads' HO296.out).2.1); rintro e w' ⟨rfl, ⟨nd, rfl⟩⟩))
    go_ret
    exact ⟨tE_, dL_ HB⟩
  ·rw [if_neg c10] at H
   have c10b0 : (t287 == t294) = false := beq_eq_false_iff_ne.mpr c10
   have c10b1 : (t287 != t294) = true := bne_iff_ne.mpr c10
   obtain rfl := Option.some.inj H
   go_enter Try.func10, Try.ntmps10
   go_wp2_with (first | ((with_reducible refine gate_callee (f := 13) rfl ?_); refine goesL_ (some 13) rfl rfl Try.func13 (by kernel_rfl) rfl #[.slice A0 l0.length c0, .agg #[.int .i64 0, .int .i64 0, .int .i64 0, .slice none 0 0, .slice none 0 0, .slice none 0 0, .slice none 0 0, .int .i64 0, .int .i64 0, .bool false]] rfl tA_ ?_; (refine (hinterlandlaw10_large.calls k _ _ l0 0 0 0 _ _ ([] : List Int) _ _ ([] : List Int) _ _ ([] : List Int) _ _ ([] : List Int) 0 0 false false _ ?side1 ?side2 ?side3 ?side4 ?side5 ?side6 ?side7 ?side8 ?side9 ?side10 A3.out).mono ?_); (case side1 => repeat (first | exact HR0.out | (with_reducible refine Kd.C_alloc ?_ _) | (with_reducible refine Kd.C_drewN ?_ _) | (with_reducible refine Kd.C_drew ?_))); (case side2 => exact HC0.out); (case side3 => exact Kd.C_nil _ _); (case side4 => exact Nat.le_refl _); (case side5 => exact Kd.C_nil _ _); (case side6 => exact Nat.le_refl _); (case side7 => exact Kd.C_nil _ _); (case side8 => exact Nat.le_refl _); (case side9 => exact Kd.C_nil _ _); (case side10 => exact Nat.le_refl _); rintro e w36 ⟨rfl, hb⟩; refine ⟨_, rfl, ?_⟩; replace HB := Aside0.mk (below_step (dL_ HB) hb)) | ((with_reducible refine gate_callee (f := 28) rfl ?_); refine goesL_ (some 18) rfl rfl Try.func28 (by kernel_rfl) rfl #[.slice A0 l0.length c0, .int .i64 a1] rfl tA_ ?_; (with_reducible refine (plant_Chains.calls k _ _ l0 a1 t285 t286 t287 _ ?side1 ?side2 A8.out).mono ?_); (case side1 => exact dC_ HR0 HB); (case side2 => exact HC0.out); rintro e w37 ⟨v288, v290, rfl, ho0, ho1, hb⟩; refine ⟨_, rfl, ?_⟩; have HO289 := Aside0.mk (Kd.R_lower ho0 (below_size (dL_ HB))); have HO291 := Aside0.mk (Kd.R_lower ho1 (below_size (dL_ HB))); replace HB := Aside0.mk (below_step (dL_ HB) hb)) | ((with_reducible refine gate_callee (f := 29) rfl ?_); refine goesL_ (some 25) rfl rfl Try.func29 (by kernel_rfl) rfl #[.slice A0 l0.length c0, .int .i64 a1] rfl tA_ ?_; (with_reducible refine (hinterlandref10_Chains.calls k _ _ l0 a1 t292 t293 t294 _ ?side1 ?side2 A9.out).mono ?_); (case side1 => exact dC_ HR0 HB); (case side2 => exact HC0.out); rintro e w38 ⟨v295, v297, rfl, ho0, ho1, hb⟩; refine ⟨_, rfl, ?_⟩; have HO296 := Aside0.mk (Kd.R_lower (Kd.R_new' (Kd.R_new' ho0 (Kd.R_lt (dR_ HO289))) (Kd.R_lt (dR_ HO291))) (below_size (dL_ HB))); have HO298 := Aside0.mk (Kd.R_lower (Kd.R_new' (Kd.R_new' ho1 (Kd.R_lt (dR_ HO289))) (Kd.R_lt (dR_ HO291))) (below_size (dL_ HB))); replace HO289 := Aside0.mk (Kd.R_mono (Kd.R_told (Kd.R_told (Kd.R_old (dR_ HO289) hb) (Kd.R_base ho0)) (Kd.R_base ho1)) (fun _ h_ => h_.1)); replace HO291 := Aside0.mk (Kd.R_mono (Kd.R_told (Kd.R_told (Kd.R_old (dR_ HO291) hb) (Kd.R_base ho0)) (Kd.R_base ho1)) (fun _ h_ => h_.1)); replace HB := Aside0.mk (below_step (dL_ HB) hb)))
   go_ret
   exact ⟨tE_, dL_ HB⟩

/-- THE ONE PURE STATEMENT of hinterlandlaw10_PlantChains. -/
def hinterlandlaw10_PlantChains.Pure : Prop := ∀ (l0 : List (S39)) (a1 : Int), (wRow wT39) l0 → (wInt .i64) a1 → ∃ k, hinterlandlaw10_PlantChains.f k l0 a1 = some true

end Go.Proofs.Ytnkgelnkoljgdaa.Q
