-- PRINTED by print.py (a twelfth state) out of the translation. Not trusted: Lean checks it.
import Derived.Test.YtnkgelnkoljgdaaPrs
import Derived.Test.YtnkgelnkoljgdaaQ0
import Derived.Test.YtnkgelnkoljgdaaQ5
import Derived.Test.YtnkgelnkoljgdaaQ11
import Derived.Test.YtnkgelnkoljgdaaQ12
namespace Go.Proofs.Ytnkgelnkoljgdaa.Q
open Go.RowKit Go.Proofs.YtnkgelnkoljgdaaPrs Go.Proofs.YtnkgelnkoljgdaaOwn Go.Proofs.YtnkgelnkoljgdaaW.PrintWords Go.Proofs.YtnkgelnkoljgdaaW.PrintLast Go.Proofs.YtnkgelnkoljgdaaW.PrintMore
open List renaming setIfInBounds_toArray → sI_, set_cons_zero → s0_, set_cons_succ → sS_
attribute [local go_sem] max2_int min2_int max_two min_two max_three min_three max_four min_four   -- for this text's walks alone
set_option linter.unusedVariables false
set_option linter.unusedSimpArgs false

/-! ### hinterlandlaw10_known: function 14 -/
def hinterlandlaw10_known.f (k : Nat)  : Option (Bool) := (hinterlandlaw10_works.f).bind fun t196 => ((plant_New.f k t196 0 7).bind fun bt199 => ((hinterlandlaw10_works.f).bind fun t219 => ((plant_Bring.f k t219 bt199.1 bt199.2.1 bt199.2.2.1 bt199.2.2.2.1 bt199.2.2.2.2.1 bt199.2.2.2.2.2.1 bt199.2.2.2.2.2.2.1 bt199.2.2.2.2.2.2.2.1 bt199.2.2.2.2.2.2.2.2.1 bt199.2.2.2.2.2.2.2.2.2.1 0 3).bind fun bt222 => (if bt199.2.2.2.2.2.2.2.2.2.2 = 0 then (if bt222.2.2.2.2.2.2.2.2.2.2.2 = 0 then (if bt222.2.2.2.2.2.2.2.2.2.2.1 = 3 then (if bt199.2.2.1 = 16 then (if bt199.2.2.2.2.2.2.2.2.2.1 = true then (if bt199.2.1 = 7 then (if (bt222.2.2.2.1.length : Int) = 1 then (if 0 < (bt222.2.2.2.1.length : Int) then (if (rd bt222.2.2.2.1 0) = 1 then (if (bt222.2.2.2.2.1.length : Int) = 1 then (if 0 < (bt222.2.2.2.2.1.length : Int) then (some ((rd bt222.2.2.2.2.1 0) == 4)) else (none)) else (none)) else (none)) else (none)) else (none)) else (none)) else (none)) else (none)) else (none)) else (none)) else (none)))))
theorem hinterlandlaw10_known.mono : ∀ k, LeO (hinterlandlaw10_known.f k ) (hinterlandlaw10_known.f (k + 1) ) := by
  intro  k
  unfold hinterlandlaw10_known.f
  repeat' first
      | (with_reducible first | exact plant_Bring.mono _ _ _ _ _ _ _ _ _ _ _ _ _ _ | exact plant_New.mono _ _ _ _ | exact LeO.refl _ | exact LeO.none _ | refine LeO.ite ?_ ?_ | refine LeO.bind ?_ (fun _ => ?_))
      | exact plant_Bring.mono _ _ _ _ _ _ _ _ _ _ _ _ _ _
      | exact plant_New.mono _ _ _ _
      | exact LeO.none _
      | refine LeO.ite ?_ ?_
      | refine LeO.bind ?_ (fun _ => ?_)
def hinterlandlaw10_known.T2 : Bool × List (List Nat × List Nat) := (true, [([], []), ([], []), ([0, 1, 0], [0, 1]), ([2], [2]), ([3], [3]), ([3], [3]), ([3], [3]), ([], []), ([7, 4, 2, 0, 1, 2, 3, 4, 7], [4, 7]), ([5, 8, 0, 1, 2, 3, 4, 5, 7, 8], [5]), ([6, 9, 0, 1, 2, 3, 4, 5, 6, 7, 8, 9], [6])])
def hinterlandlaw10_known.B2 : List Nat := [0, 0, 3, 7, 15, 15, 15, 0, 159, 447, 1023]
theorem hinterlandlaw10_known.tab2 : rtab .any (opsOf Try.f14 2) = hinterlandlaw10_known.T2 := by kernel_rfl
theorem hinterlandlaw10_known.bits2 : waitsOk hinterlandlaw10_known.T2.2 hinterlandlaw10_known.B2 = true := by kernel_rfl
set_option maxHeartbeats 8000000 in
set_option maxRecDepth 100000 in
theorem hinterlandlaw10_known.calls (k : Nat)  (r : Bool) (w : World) (h : hinterlandlaw10_known.f k  = some r) :
    Calls Try.prog 14 #[] w fun e w' => e = .returned (.bool r) ∧ Below w.heap.size w w' := by
 have hu25 := Try.underlying25
 have HB := Aside0.mk (Below.refl w.heap.size w)
 have H : ((hinterlandlaw10_works.f).bind fun t196 => ((plant_New.f k t196 0 7).bind fun bt199 => ((hinterlandlaw10_works.f).bind fun t219 => ((plant_Bring.f k t219 bt199.1 bt199.2.1 bt199.2.2.1 bt199.2.2.2.1 bt199.2.2.2.2.1 bt199.2.2.2.2.2.1 bt199.2.2.2.2.2.2.1 bt199.2.2.2.2.2.2.2.1 bt199.2.2.2.2.2.2.2.2.1 bt199.2.2.2.2.2.2.2.2.2.1 0 3).bind fun bt222 => (if bt199.2.2.2.2.2.2.2.2.2.2 = 0 then (if bt222.2.2.2.2.2.2.2.2.2.2.2 = 0 then (if bt222.2.2.2.2.2.2.2.2.2.2.1 = 3 then (if bt199.2.2.1 = 16 then (if bt199.2.2.2.2.2.2.2.2.2.1 = true then (if bt199.2.1 = 7 then (if (bt222.2.2.2.1.length : Int) = 1 then (if 0 < (bt222.2.2.2.1.length : Int) then (if (rd bt222.2.2.2.1 0) = 1 then (if (bt222.2.2.2.2.1.length : Int) = 1 then (if 0 < (bt222.2.2.2.2.1.length : Int) then (some ((rd bt222.2.2.2.2.1 0) == 4)) else (none)) else (none)) else (none)) else (none)) else (none)) else (none)) else (none)) else (none)) else (none)) else (none)) else (none)))))) = some r := h
 clear h
 replace H := Option.bind_eq_some_iff.mp H
 obtain ⟨t196, A10, H⟩ := H
 replace H : ((plant_New.f k t196 0 7).bind fun bt199 => ((hinterlandlaw10_works.f).bind fun t219 => ((plant_Bring.f k t219 bt199.1 bt199.2.1 bt199.2.2.1 bt199.2.2.2.1 bt199.2.2.2.2.1 bt199.2.2.2.2.2.1 bt199.2.2.2.2.2.2.1 bt199.2.2.2.2.2.2.2.1 bt199.2.2.2.2.2.2.2.2.1 bt199.2.2.2.2.2.2.2.2.2.1 0 3).bind fun bt222 => (if bt199.2.2.2.2.2.2.2.2.2.2 = 0 then (if bt222.2.2.2.2.2.2.2.2.2.2.2 = 0 then (if bt222.2.2.2.2.2.2.2.2.2.2.1 = 3 then (if bt199.2.2.1 = 16 then (if bt199.2.2.2.2.2.2.2.2.2.1 = true then (if bt199.2.1 = 7 then (if (bt222.2.2.2.1.length : Int) = 1 then (if 0 < (bt222.2.2.2.1.length : Int) then (if (rd bt222.2.2.2.1 0) = 1 then (if (bt222.2.2.2.2.1.length : Int) = 1 then (if 0 < (bt222.2.2.2.2.1.length : Int) then (some ((rd bt222.2.2.2.2.1 0) == 4)) else (none)) else (none)) else (none)) else (none)) else (none)) else (none)) else (none)) else (none)) else (none)) else (none)) else (none))))) = some r := H
 have A1 := Aside0.mk A10
 clear A10
 replace H := Option.bind_eq_some_iff.mp H
 obtain ⟨⟨t199, t200, t201, t202, t205, t208, t211, t214, t215, t216, t217⟩, A20, H⟩ := H
 replace H : ((hinterlandlaw10_works.f).bind fun t219 => ((plant_Bring.f k t219 t199 t200 t201 t202 t205 t208 t211 t214 t215 t216 0 3).bind fun bt222 => (if t217 = 0 then (if bt222.2.2.2.2.2.2.2.2.2.2.2 = 0 then (if bt222.2.2.2.2.2.2.2.2.2.2.1 = 3 then (if t201 = 16 then (if t216 = true then (if t200 = 7 then (if (bt222.2.2.2.1.length : Int) = 1 then (if 0 < (bt222.2.2.2.1.length : Int) then (if (rd bt222.2.2.2.1 0) = 1 then (if (bt222.2.2.2.2.1.length : Int) = 1 then (if 0 < (bt222.2.2.2.2.1.length : Int) then (some ((rd bt222.2.2.2.2.1 0) == 4)) else (none)) else (none)) else (none)) else (none)) else (none)) else (none)) else (none)) else (none)) else (none)) else (none)) else (none)))) = some r := H
 have A2 := Aside0.mk A20
 clear A20
 replace H := Option.bind_eq_some_iff.mp H
 obtain ⟨t219, A30, H⟩ := H
 replace H : ((plant_Bring.f k t219 t199 t200 t201 t202 t205 t208 t211 t214 t215 t216 0 3).bind fun bt222 => (if t217 = 0 then (if bt222.2.2.2.2.2.2.2.2.2.2.2 = 0 then (if bt222.2.2.2.2.2.2.2.2.2.2.1 = 3 then (if t201 = 16 then (if t216 = true then (if t200 = 7 then (if (bt222.2.2.2.1.length : Int) = 1 then (if 0 < (bt222.2.2.2.1.length : Int) then (if (rd bt222.2.2.2.1 0) = 1 then (if (bt222.2.2.2.2.1.length : Int) = 1 then (if 0 < (bt222.2.2.2.2.1.length : Int) then (some ((rd bt222.2.2.2.2.1 0) == 4)) else (none)) else (none)) else (none)) else (none)) else (none)) else (none)) else (none)) else (none)) else (none)) else (none)) else (none))) = some r := H
 have A3 := Aside0.mk A30
 clear A30
 replace H := Option.bind_eq_some_iff.mp H
 obtain ⟨⟨t222, t223, t224, t225, t228, t231, t234, t237, t238, t239, t240, t241⟩, A40, H⟩ := H
 replace H : (if t217 = 0 then (if t241 = 0 then (if t240 = 3 then (if t201 = 16 then (if t216 = true then (if t200 = 7 then (if (t225.length : Int) = 1 then (if 0 < (t225.length : Int) then (if (rd t225 0) = 1 then (if (t228.length : Int) = 1 then (if 0 < (t228.length : Int) then (some ((rd t228 0) == 4)) else (none)) else (none)) else (none)) else (none)) else (none)) else (none)) else (none)) else (none)) else (none)) else (none)) else (none)) = some r := H
 have A4 := Aside0.mk A40
 clear A40
 by_cases c5 : t217 = 0
 ·rw [if_pos c5] at H
  have c5b0 : (t217 == 0) = true := beq_iff_eq.mpr c5
  have c5b1 : (t217 != 0) = false := bne_eq_false_iff_eq.mpr c5
  clear c5
  by_cases c6 : t241 = 0
  ·rw [if_pos c6] at H
   have c6b0 : (t241 == 0) = true := beq_iff_eq.mpr c6
   have c6b1 : (t241 != 0) = false := bne_eq_false_iff_eq.mpr c6
   clear c6
   by_cases c7 : t240 = 3
   ·rw [if_pos c7] at H
    have c7b0 : (t240 == 3) = true := beq_iff_eq.mpr c7
    have c7b1 : (t240 != 3) = false := bne_eq_false_iff_eq.mpr c7
    clear c7
    by_cases c8 : t201 = 16
    ·rw [if_pos c8] at H
     have c8b0 : (t201 == 16) = true := beq_iff_eq.mpr c8
     have c8b1 : (t201 != 16) = false := bne_eq_false_iff_eq.mpr c8
     clear c8
     by_cases c9 : t216 = true
     ·subst c9
      have H1 : (if t200 = 7 then (if (t225.length : Int) = 1 then (if 0 < (t225.length : Int) then (if (rd t225 0) = 1 then (if (t228.length : Int) = 1 then (if 0 < (t228.length : Int) then (some ((rd t228 0) == 4)) else (none)) else (none)) else (none)) else (none)) else (none)) else (none)) = some r := by rw [if_pos rfl] at H; exact H
      clear H
      have H := H1
      clear H1
      by_cases c10 : t200 = 7
      ·rw [if_pos c10] at H
       have c10b0 : (t200 == 7) = true := beq_iff_eq.mpr c10
       have c10b1 : (t200 != 7) = false := bne_eq_false_iff_eq.mpr c10
       clear c10
       by_cases c11 : (t225.length : Int) = 1
       ·rw [if_pos c11] at H
        have c11b0 : ((t225.length : Int) == 1) = true := beq_iff_eq.mpr c11
        have c11b1 : ((t225.length : Int) != 1) = false := bne_eq_false_iff_eq.mpr c11
        clear c11
        by_cases c12 : 0 < (t225.length : Int)
        ·rw [if_pos c12] at H
         have c12b0 : decide (0 < (t225.length : Int)) = true := decide_eq_true c12
         have c12b1 : decide (0 < t225.length) = true := decide_eq_true (by omega)
         clear c12
         by_cases c13 : (rd t225 0) = 1
         ·rw [if_pos c13] at H
          have c13b0 : ((rd t225 0) == 1) = true := beq_iff_eq.mpr c13
          have c13b1 : ((rd t225 0) != 1) = false := bne_eq_false_iff_eq.mpr c13
          clear c13
          by_cases c14 : (t228.length : Int) = 1
          ·rw [if_pos c14] at H
           have c14b0 : ((t228.length : Int) == 1) = true := beq_iff_eq.mpr c14
           have c14b1 : ((t228.length : Int) != 1) = false := bne_eq_false_iff_eq.mpr c14
           clear c14
           by_cases c15 : 0 < (t228.length : Int)
           ·rw [if_pos c15] at H
            have c15b0 : decide (0 < (t228.length : Int)) = true := decide_eq_true c15
            have c15b1 : decide (0 < t228.length) = true := decide_eq_true (by omega)
            clear c15
            obtain rfl := Option.some.inj H
            go_enter Try.func14, Try.ntmps14
            try go_wp2_with (first | ((with_reducible refine gate_callee (f := 32) rfl ?_); refine goesL_ (some 7) rfl rfl Try.func32 (by kernel_rfl) rfl #[] rfl tA_ ?_; (with_reducible refine (hinterlandlaw10_works.calls  t196 _ A1.out).mono ?_); rintro e w16 ⟨v197, rfl, ho0, hb⟩; refine ⟨_, rfl, ?_⟩; have HO198 := Aside0.mk (Kd.N_lower (Kd.N_mono (ok' := fun k_ => True) ho0 (fun k_ hk_ => trivial)) (below_size (dL_ HB))); replace HB := Aside0.mk (below_step (dL_ HB) hb); obtain ⟨Ao17, co17, eo17⟩ := Kd.N_slice HO198.out; subst eo17) | ((with_reducible refine gate_callee (f := 17) rfl ?_); refine goesL_ (some 8) rfl rfl Try.func17 (by kernel_rfl) rfl #[.slice Ao17 t196.length co17, .int .i64 0, .int .i64 7] rfl tA_ ?_; (with_reducible refine (plant_New.calls k _ _ t196 0 7 t199 t200 t201 t202 t205 t208 t211 t214 t215 true t217 _ ?side1 ?side2 A2.out).mono ?_); (case side1 => repeat (first | exact (Kd.N_reads' HO198.out).2.2 | (with_reducible refine Kd.C_alloc ?_ _) | (with_reducible refine Kd.C_drewN ?_ _) | (with_reducible refine Kd.C_drew ?_))); (case side2 => exact (Kd.N_reads' HO198.out).2.1); rintro e w18 ⟨v203, v206, v209, v212, rfl, ho0, ho1, ho2, ho3, hb⟩; refine ⟨_, rfl, ?_⟩; replace HO198 := Aside0.mk (Kd.N_mono (Kd.N_told (Kd.N_told (Kd.N_told (Kd.N_told (Kd.N_old (by (with_reducible repeat (first | apply Kd.N_alloc | apply Kd.N_drewN | apply Kd.N_drew)); exact HO198.out) hb) (Kd.R_base ho0)) (Kd.R_base ho1)) (Kd.R_base ho2)) (Kd.R_base ho3)) (fun _ h_ => h_.1)); have HO204 := Aside0.mk (Kd.R_lower ho0 (below_size (dL_ HB))); have HO207 := Aside0.mk (Kd.R_lower ho1 (below_size (dL_ HB))); have HO210 := Aside0.mk (Kd.R_lower ho2 (below_size (dL_ HB))); have HO213 := Aside0.mk (Kd.R_lower ho3 (below_size (dL_ HB))); replace HB := Aside0.mk (below_step (dL_ HB) hb)) | ((with_reducible refine gate_dst (N := 1) rfl ?_); (try (refine gate_guard (by rfl) ?_; dsimp only)); refine box_event ?hg (N := 1) ?hd (cs := #[.int .i64 0, .int .i64 0, .int .i64 0, .slice none 0 0, .slice none 0 0, .slice none 0 0, .slice none 0 0, .int .i64 0, .int .i64 0, .bool false]) (t := 25) ?hr ?_; (case hd => rfl); (case hg => rfl); (case hr => first | (go_simp; done) | (go_simp; rfl)); intro gb218 hg w19 hbox hb; replace HO198 := Aside0.mk (Kd.N_below (Kd.N_elderB (by (with_reducible repeat (first | apply Kd.N_alloc | apply Kd.N_drewN | apply Kd.N_drew)); exact HO198.out) gb218 (Nat.le_of_eq hg.symm)) hb); replace HO204 := Aside0.mk (Kd.R_below (dR_ HO204) hb); replace HO207 := Aside0.mk (Kd.R_below (dR_ HO207) hb); replace HO210 := Aside0.mk (Kd.R_below (dR_ HO210) hb); replace HO213 := Aside0.mk (Kd.R_below (dR_ HO213) hb); have BK218 := Aside0.mk (hbox); have GW218 := Aside0.mk ((dS_ hg (dL_ HB) : w.heap.size ≤ gb218)); have GE218 := Aside0.mk ((dS_ hg (dL_ HB) : w.heap.size ≤ gb218)); replace HB := Aside0.mk (below_step (dL_ HB) hb); clear hb hbox hg; obtain ⟨hcz20_0, hcz20_1, hcz20_2, hcz20_3, hcz20_4, hcz20_5, hcz20_6, hcz20_7, hcz20_8, hcz20_9, hfz20_0, hfz20_1, hfz20_2, hfz20_3, hfz20_4, hfz20_5, hfz20_6, hfz20_7, hfz20_8, hfz20_9⟩ := cs10_ BK218.out; obtain ⟨Ao21, co21, eo21⟩ := Kd.R_slice HO204.out; subst eo21; obtain ⟨Ao22, co22, eo22⟩ := Kd.R_slice HO207.out; subst eo22; obtain ⟨Ao23, co23, eo23⟩ := Kd.R_slice HO210.out; subst eo23; obtain ⟨Ao24, co24, eo24⟩ := Kd.R_slice HO213.out; subst eo24))
            have n0_ : Aside0 (Kd.N k39 39 ((((((((((w19.setCell ⟨gb218, 0, none⟩ (.int .i64 t199)).setCell ⟨gb218, 1, none⟩ (.int .i64 t200)).setCell ⟨gb218, 2, none⟩ (.int .i64 t201)).setCell ⟨gb218, 3, none⟩ (.slice Ao21 t202.length co21)).setCell ⟨gb218, 4, none⟩ (.slice Ao22 t205.length co22)).setCell ⟨gb218, 5, none⟩ (.slice Ao23 t208.length co23)).setCell ⟨gb218, 6, none⟩ (.slice Ao24 t211.length co24)).setCell ⟨gb218, 7, none⟩ (.int .i64 t214)).setCell ⟨gb218, 8, none⟩ (.int .i64 t215)).setCell ⟨gb218, 9, none⟩ (.bool true)) w.heap.size (fun k_ => some k_ ≠ (.slice Ao21 t202.length co21 : Value).ownBlock ∧ some k_ ≠ (.slice Ao22 t205.length co22 : Value).ownBlock ∧ some k_ ≠ (.slice Ao23 t208.length co23 : Value).ownBlock ∧ some k_ ≠ (.slice Ao24 t211.length co24 : Value).ownBlock ∧ k_ ≠ gb218) (.slice Ao17 t196.length co17) t196) := ⟨by (with_reducible repeat (first | apply Kd.N_alloc | apply Kd.N_drewN | apply Kd.N_drew)); exact Kd.N_mono (Kd.N_far (p := ⟨gb218, 9, none⟩) (Kd.N_far (p := ⟨gb218, 8, none⟩) (Kd.N_far (p := ⟨gb218, 7, none⟩) (Kd.N_far (p := ⟨gb218, 6, none⟩) (Kd.N_far (p := ⟨gb218, 5, none⟩) (Kd.N_far (p := ⟨gb218, 4, none⟩) (Kd.N_far (p := ⟨gb218, 3, none⟩) (Kd.N_far (p := ⟨gb218, 2, none⟩) (Kd.N_far (p := ⟨gb218, 1, none⟩) (Kd.N_far (p := ⟨gb218, 0, none⟩) (Kd.N_mono HO198.out (fun k_ hk => (⟨hk, hk.2⟩ : _ ∧ k_ ≠ gb218))) (fun _ hk => hk.2) (.int .i64 t199)) (fun _ hk => hk.2) (.int .i64 t200)) (fun _ hk => hk.2) (.int .i64 t201)) (fun _ hk => hk.2) (.slice Ao21 t202.length co21)) (fun _ hk => hk.2) (.slice Ao22 t205.length co22)) (fun _ hk => hk.2) (.slice Ao23 t208.length co23)) (fun _ hk => hk.2) (.slice Ao24 t211.length co24)) (fun _ hk => hk.2) (.int .i64 t214)) (fun _ hk => hk.2) (.int .i64 t215)) (fun _ hk => hk.2) (.bool true)) (fun _ hk => ⟨hk.1.1.1.1.1.2, ⟨hk.1.1.1.1.2, ⟨hk.1.1.1.2, ⟨hk.1.1.2, hk.1.2⟩⟩⟩⟩)⟩
            have n1_ : Aside0 (Kd.R (Kd.int .i64) 3 ((((((((((w19.setCell ⟨gb218, 0, none⟩ (.int .i64 t199)).setCell ⟨gb218, 1, none⟩ (.int .i64 t200)).setCell ⟨gb218, 2, none⟩ (.int .i64 t201)).setCell ⟨gb218, 3, none⟩ (.slice Ao21 t202.length co21)).setCell ⟨gb218, 4, none⟩ (.slice Ao22 t205.length co22)).setCell ⟨gb218, 5, none⟩ (.slice Ao23 t208.length co23)).setCell ⟨gb218, 6, none⟩ (.slice Ao24 t211.length co24)).setCell ⟨gb218, 7, none⟩ (.int .i64 t214)).setCell ⟨gb218, 8, none⟩ (.int .i64 t215)).setCell ⟨gb218, 9, none⟩ (.bool true)) w.heap.size (fun k_ => some k_ ≠ (.slice Ao22 t205.length co22 : Value).ownBlock ∧ some k_ ≠ (.slice Ao23 t208.length co23 : Value).ownBlock ∧ some k_ ≠ (.slice Ao24 t211.length co24 : Value).ownBlock) (.slice Ao21 t202.length co21) t202) := ⟨by (with_reducible repeat (first | apply Kd.R_alloc | apply Kd.R_drewN | apply Kd.R_drew)); exact Kd.R_mono (far10_ (Kd.R_types HO204.out BK218.out (by decide)) gb218 (fun _ hk => hk.2) (.int .i64 t199) (.int .i64 t200) (.int .i64 t201) (.slice Ao21 t202.length co21) (.slice Ao22 t205.length co22) (.slice Ao23 t208.length co23) (.slice Ao24 t211.length co24) (.int .i64 t214) (.int .i64 t215) (.bool true)) (fun _ hk => ⟨hk.1.1, ⟨hk.1.2.1, hk.1.2.2⟩⟩)⟩
            have n2_ : Aside0 (Kd.R (Kd.int .i64) 3 ((((((((((w19.setCell ⟨gb218, 0, none⟩ (.int .i64 t199)).setCell ⟨gb218, 1, none⟩ (.int .i64 t200)).setCell ⟨gb218, 2, none⟩ (.int .i64 t201)).setCell ⟨gb218, 3, none⟩ (.slice Ao21 t202.length co21)).setCell ⟨gb218, 4, none⟩ (.slice Ao22 t205.length co22)).setCell ⟨gb218, 5, none⟩ (.slice Ao23 t208.length co23)).setCell ⟨gb218, 6, none⟩ (.slice Ao24 t211.length co24)).setCell ⟨gb218, 7, none⟩ (.int .i64 t214)).setCell ⟨gb218, 8, none⟩ (.int .i64 t215)).setCell ⟨gb218, 9, none⟩ (.bool true)) w.heap.size (fun k_ => some k_ ≠ (.slice Ao21 t202.length co21 : Value).ownBlock ∧ some k_ ≠ (.slice Ao23 t208.length co23 : Value).ownBlock ∧ some k_ ≠ (.slice Ao24 t211.length co24 : Value).ownBlock) (.slice Ao22 t205.length co22) t205) := ⟨by (with_reducible repeat (first | apply Kd.R_alloc | apply Kd.R_drewN | apply Kd.R_drew)); exact Kd.R_mono (far10_ (Kd.R_types HO207.out BK218.out (by decide)) gb218 (fun _ hk => hk.2) (.int .i64 t199) (.int .i64 t200) (.int .i64 t201) (.slice Ao21 t202.length co21) (.slice Ao22 t205.length co22) (.slice Ao23 t208.length co23) (.slice Ao24 t211.length co24) (.int .i64 t214) (.int .i64 t215) (.bool true)) (fun _ hk => ⟨hk.1.1, ⟨hk.1.2.1, hk.1.2.2⟩⟩)⟩
            have n3_ : Aside0 (Kd.R (Kd.int .i64) 3 ((((((((((w19.setCell ⟨gb218, 0, none⟩ (.int .i64 t199)).setCell ⟨gb218, 1, none⟩ (.int .i64 t200)).setCell ⟨gb218, 2, none⟩ (.int .i64 t201)).setCell ⟨gb218, 3, none⟩ (.slice Ao21 t202.length co21)).setCell ⟨gb218, 4, none⟩ (.slice Ao22 t205.length co22)).setCell ⟨gb218, 5, none⟩ (.slice Ao23 t208.length co23)).setCell ⟨gb218, 6, none⟩ (.slice Ao24 t211.length co24)).setCell ⟨gb218, 7, none⟩ (.int .i64 t214)).setCell ⟨gb218, 8, none⟩ (.int .i64 t215)).setCell ⟨gb218, 9, none⟩ (.bool true)) w.heap.size (fun k_ => some k_ ≠ (.slice Ao21 t202.length co21 : Value).ownBlock ∧ some k_ ≠ (.slice Ao22 t205.length co22 : Value).ownBlock ∧ some k_ ≠ (.slice Ao24 t211.length co24 : Value).ownBlock) (.slice Ao23 t208.length co23) t208) := ⟨by (with_reducible repeat (first | apply Kd.R_alloc | apply Kd.R_drewN | apply Kd.R_drew)); exact Kd.R_mono (far10_ (Kd.R_types HO210.out BK218.out (by decide)) gb218 (fun _ hk => hk.2) (.int .i64 t199) (.int .i64 t200) (.int .i64 t201) (.slice Ao21 t202.length co21) (.slice Ao22 t205.length co22) (.slice Ao23 t208.length co23) (.slice Ao24 t211.length co24) (.int .i64 t214) (.int .i64 t215) (.bool true)) (fun _ hk => ⟨hk.1.1, ⟨hk.1.2.1, hk.1.2.2⟩⟩)⟩
            have n4_ : Aside0 (Kd.R (Kd.int .i64) 3 ((((((((((w19.setCell ⟨gb218, 0, none⟩ (.int .i64 t199)).setCell ⟨gb218, 1, none⟩ (.int .i64 t200)).setCell ⟨gb218, 2, none⟩ (.int .i64 t201)).setCell ⟨gb218, 3, none⟩ (.slice Ao21 t202.length co21)).setCell ⟨gb218, 4, none⟩ (.slice Ao22 t205.length co22)).setCell ⟨gb218, 5, none⟩ (.slice Ao23 t208.length co23)).setCell ⟨gb218, 6, none⟩ (.slice Ao24 t211.length co24)).setCell ⟨gb218, 7, none⟩ (.int .i64 t214)).setCell ⟨gb218, 8, none⟩ (.int .i64 t215)).setCell ⟨gb218, 9, none⟩ (.bool true)) w.heap.size (fun k_ => some k_ ≠ (.slice Ao21 t202.length co21 : Value).ownBlock ∧ some k_ ≠ (.slice Ao22 t205.length co22 : Value).ownBlock ∧ some k_ ≠ (.slice Ao23 t208.length co23 : Value).ownBlock) (.slice Ao24 t211.length co24) t211) := ⟨by (with_reducible repeat (first | apply Kd.R_alloc | apply Kd.R_drewN | apply Kd.R_drew)); exact Kd.R_mono (far10_ (Kd.R_types HO213.out BK218.out (by decide)) gb218 (fun _ hk => hk.2) (.int .i64 t199) (.int .i64 t200) (.int .i64 t201) (.slice Ao21 t202.length co21) (.slice Ao22 t205.length co22) (.slice Ao23 t208.length co23) (.slice Ao24 t211.length co24) (.int .i64 t214) (.int .i64 t215) (.bool true)) (fun _ hk => ⟨hk.1.1, ⟨hk.1.2.1, hk.1.2.2⟩⟩)⟩
            have n5_ : Aside0 (((((((((((w19.setCell ⟨gb218, 0, none⟩ (.int .i64 t199)).setCell ⟨gb218, 1, none⟩ (.int .i64 t200)).setCell ⟨gb218, 2, none⟩ (.int .i64 t201)).setCell ⟨gb218, 3, none⟩ (.slice Ao21 t202.length co21)).setCell ⟨gb218, 4, none⟩ (.slice Ao22 t205.length co22)).setCell ⟨gb218, 5, none⟩ (.slice Ao23 t208.length co23)).setCell ⟨gb218, 6, none⟩ (.slice Ao24 t211.length co24)).setCell ⟨gb218, 7, none⟩ (.int .i64 t214)).setCell ⟨gb218, 8, none⟩ (.int .i64 t215)).setCell ⟨gb218, 9, none⟩ (.bool true)).heap[gb218]? = some (.cells #[.int .i64 t199, .int .i64 t200, .int .i64 t201, .slice Ao21 t202.length co21, .slice Ao22 t205.length co22, .slice Ao23 t208.length co23, .slice Ao24 t211.length co24, .int .i64 t214, .int .i64 t215, .bool true] 25 (0, 0))) := ⟨dP10_ BK218⟩
            have n6_ : Aside0 (Below w.heap.size w ((((((((((w19.setCell ⟨gb218, 0, none⟩ (.int .i64 t199)).setCell ⟨gb218, 1, none⟩ (.int .i64 t200)).setCell ⟨gb218, 2, none⟩ (.int .i64 t201)).setCell ⟨gb218, 3, none⟩ (.slice Ao21 t202.length co21)).setCell ⟨gb218, 4, none⟩ (.slice Ao22 t205.length co22)).setCell ⟨gb218, 5, none⟩ (.slice Ao23 t208.length co23)).setCell ⟨gb218, 6, none⟩ (.slice Ao24 t211.length co24)).setCell ⟨gb218, 7, none⟩ (.int .i64 t214)).setCell ⟨gb218, 8, none⟩ (.int .i64 t215)).setCell ⟨gb218, 9, none⟩ (.bool true))) := ⟨dL1_ HB GE218⟩
            (try clear HO198)
            (try clear HO204)
            (try clear HO207)
            (try clear HO210)
            (try clear HO213)
            (try clear BK218)
            (try clear HB)
            generalize ((((((((((w19.setCell ⟨gb218, 0, none⟩ (.int .i64 t199)).setCell ⟨gb218, 1, none⟩ (.int .i64 t200)).setCell ⟨gb218, 2, none⟩ (.int .i64 t201)).setCell ⟨gb218, 3, none⟩ (.slice Ao21 t202.length co21)).setCell ⟨gb218, 4, none⟩ (.slice Ao22 t205.length co22)).setCell ⟨gb218, 5, none⟩ (.slice Ao23 t208.length co23)).setCell ⟨gb218, 6, none⟩ (.slice Ao24 t211.length co24)).setCell ⟨gb218, 7, none⟩ (.int .i64 t214)).setCell ⟨gb218, 8, none⟩ (.int .i64 t215)).setCell ⟨gb218, 9, none⟩ (.bool true)) = w25 at n0_ n1_ n2_ n3_ n4_ n5_ n6_ ⊢
            have HO198 := n0_
            have HO204 := n1_
            have HO207 := n2_
            have HO210 := n3_
            have HO213 := n4_
            have BK218 := n5_
            have HB := n6_
            clear n0_ n1_ n2_ n3_ n4_ n5_ n6_
            replace HO198 := Aside0.mk (Kd.N_drew HO198.out)
            replace HO204 := Aside0.mk (Kd.R_drew HO204.out)
            replace HO207 := Aside0.mk (Kd.R_drew HO207.out)
            replace HO210 := Aside0.mk (Kd.R_drew HO210.out)
            replace HO213 := Aside0.mk (Kd.R_drew HO213.out)
            replace BK218 := Aside0.mk (blk_drew BK218.out)
            replace HB := Aside0.mk (below_drew1 HB.out)
            refine start_ (n := 11) (S := fun w' => w'.cell? ⟨gb218, 0, none⟩ = some (.int .i64 t199) ∧ w'.cell? ⟨gb218, 1, none⟩ = some (.int .i64 t200) ∧ w'.cell? ⟨gb218, 2, none⟩ = some (.int .i64 t201) ∧ w'.cell? ⟨gb218, 3, none⟩ = some (.slice Ao21 t202.length co21) ∧ w'.cell? ⟨gb218, 4, none⟩ = some (.slice Ao22 t205.length co22) ∧ w'.cell? ⟨gb218, 5, none⟩ = some (.slice Ao23 t208.length co23) ∧ w'.cell? ⟨gb218, 6, none⟩ = some (.slice Ao24 t211.length co24) ∧ w'.cell? ⟨gb218, 7, none⟩ = some (.int .i64 t214) ∧ w'.cell? ⟨gb218, 8, none⟩ = some (.int .i64 t215) ∧ w'.cell? ⟨gb218, 9, none⟩ = some (.bool true)) (ds := []) #[false, false, false, false, false, false, false, false, false, false, false] (by kernel_rfl) rfl rfl ⟨(blk_cell BK218.out 0).trans rfl, (blk_cell BK218.out 1).trans rfl, (blk_cell BK218.out 2).trans rfl, (blk_cell BK218.out 3).trans rfl, (blk_cell BK218.out 4).trans rfl, (blk_cell BK218.out 5).trans rfl, (blk_cell BK218.out 6).trans rfl, (blk_cell BK218.out 7).trans rfl, (blk_cell BK218.out 8).trans rfl, (blk_cell BK218.out 9).trans rfl⟩ (fun hHeld => ?_); refine with_tabW hinterlandlaw10_known.tab2 hinterlandlaw10_known.bits2 (fun HT_ HW_ => ?_)
            generalize w25.drew = w26 at HO198 HO204 HO207 HO210 HO213 BK218 HB hHeld ⊢
            refine take_ (i := 1) (N := some 13) (v := ?_) (a' := ?_) #[false, true, false, false, false, false, false, false, false, false, false] rfl rfl (take_ofW HT_.out HW_.out (by kernel_rfl)) (fun _ _ _ h => h) (Or.inl ⟨by rfl, ?_⟩) hHeld ?_ ?_; rotate_left; (rintro w' ⟨s0, s1, s2, s3, s4, s5, s6, s7, s8, s9⟩; go_simp; with_reducible rfl); rotate_left; (simp only [Act.put, sI_, s0_, sS_, i64_w, i32_w]; rfl)
            refine join_ (σ := Value × Value × Value × Value × Value × Nat) 3 #[true, true, true, true, true, true, true, true, false, false, false] (fun s_ => [(12, s_.1), (14, .tuple #[.agg #[.int .i64 t222, .int .i64 t223, .int .i64 t224, s_.2.1, s_.2.2.1, s_.2.2.2.1, s_.2.2.2.2.1, .int .i64 t237, .int .i64 t238, .bool t239], .int .i64 t240, .int .i64 t241]), (3, .pointer (some ⟨s_.2.2.2.2.2, 0, none⟩)), (11, .tuple #[.agg #[.int .i64 t222, .int .i64 t223, .int .i64 t224, s_.2.1, s_.2.2.1, s_.2.2.2.1, s_.2.2.2.2.1, .int .i64 t237, .int .i64 t238, .bool t239], .int .i64 t240, .int .i64 t241]), (15, .agg #[.int .i64 t222, .int .i64 t223, .int .i64 t224, s_.2.1, s_.2.2.1, s_.2.2.2.1, s_.2.2.2.2.1, .int .i64 t237, .int .i64 t238, .bool t239]), (16, .int .i64 t240), (17, .int .i64 t241)]) (fun s_ w' => (w'.cell? ⟨gb218, 0, none⟩ = some (.int .i64 t199) ∧ w'.cell? ⟨gb218, 1, none⟩ = some (.int .i64 t200) ∧ w'.cell? ⟨gb218, 2, none⟩ = some (.int .i64 t201) ∧ w'.cell? ⟨gb218, 3, none⟩ = some (.slice Ao21 t202.length co21) ∧ w'.cell? ⟨gb218, 4, none⟩ = some (.slice Ao22 t205.length co22) ∧ w'.cell? ⟨gb218, 5, none⟩ = some (.slice Ao23 t208.length co23) ∧ w'.cell? ⟨gb218, 6, none⟩ = some (.slice Ao24 t211.length co24) ∧ w'.cell? ⟨gb218, 7, none⟩ = some (.int .i64 t214) ∧ w'.cell? ⟨gb218, 8, none⟩ = some (.int .i64 t215) ∧ w'.cell? ⟨gb218, 9, none⟩ = some (.bool true)) ∧ (Kd.N k39 39 w' w.heap.size (fun k_ => some k_ ≠ (.slice Ao21 t202.length co21 : Value).ownBlock ∧ some k_ ≠ (.slice Ao22 t205.length co22 : Value).ownBlock ∧ some k_ ≠ (.slice Ao23 t208.length co23 : Value).ownBlock ∧ some k_ ≠ (.slice Ao24 t211.length co24 : Value).ownBlock ∧ some k_ ≠ (s_.1 : Value).ownBlock ∧ some k_ ≠ (s_.2.1 : Value).ownBlock ∧ some k_ ≠ (s_.2.2.1 : Value).ownBlock ∧ some k_ ≠ (s_.2.2.2.1 : Value).ownBlock ∧ some k_ ≠ (s_.2.2.2.2.1 : Value).ownBlock ∧ k_ ≠ gb218 ∧ k_ ≠ s_.2.2.2.2.2) (.slice Ao17 t196.length co17) t196) ∧ (Kd.R (Kd.int .i64) 3 w' w.heap.size (fun k_ => some k_ ≠ (.slice Ao22 t205.length co22 : Value).ownBlock ∧ some k_ ≠ (.slice Ao23 t208.length co23 : Value).ownBlock ∧ some k_ ≠ (.slice Ao24 t211.length co24 : Value).ownBlock ∧ some k_ ≠ (s_.2.1 : Value).ownBlock ∧ some k_ ≠ (s_.2.2.1 : Value).ownBlock ∧ some k_ ≠ (s_.2.2.2.1 : Value).ownBlock ∧ some k_ ≠ (s_.2.2.2.2.1 : Value).ownBlock) (.slice Ao21 t202.length co21) t202) ∧ (Kd.R (Kd.int .i64) 3 w' w.heap.size (fun k_ => some k_ ≠ (.slice Ao21 t202.length co21 : Value).ownBlock ∧ some k_ ≠ (.slice Ao23 t208.length co23 : Value).ownBlock ∧ some k_ ≠ (.slice Ao24 t211.length co24 : Value).ownBlock ∧ some k_ ≠ (s_.2.1 : Value).ownBlock ∧ some k_ ≠ (s_.2.2.1 : Value).ownBlock ∧ some k_ ≠ (s_.2.2.2.1 : Value).ownBlock ∧ some k_ ≠ (s_.2.2.2.2.1 : Value).ownBlock) (.slice Ao22 t205.length co22) t205) ∧ (Kd.R (Kd.int .i64) 3 w' w.heap.size (fun k_ => some k_ ≠ (.slice Ao21 t202.length co21 : Value).ownBlock ∧ some k_ ≠ (.slice Ao22 t205.length co22 : Value).ownBlock ∧ some k_ ≠ (.slice Ao24 t211.length co24 : Value).ownBlock ∧ some k_ ≠ (s_.2.1 : Value).ownBlock ∧ some k_ ≠ (s_.2.2.1 : Value).ownBlock ∧ some k_ ≠ (s_.2.2.2.1 : Value).ownBlock ∧ some k_ ≠ (s_.2.2.2.2.1 : Value).ownBlock) (.slice Ao23 t208.length co23) t208) ∧ (Kd.R (Kd.int .i64) 3 w' w.heap.size (fun k_ => some k_ ≠ (.slice Ao21 t202.length co21 : Value).ownBlock ∧ some k_ ≠ (.slice Ao22 t205.length co22 : Value).ownBlock ∧ some k_ ≠ (.slice Ao23 t208.length co23 : Value).ownBlock ∧ some k_ ≠ (s_.2.1 : Value).ownBlock ∧ some k_ ≠ (s_.2.2.1 : Value).ownBlock ∧ some k_ ≠ (s_.2.2.2.1 : Value).ownBlock ∧ some k_ ≠ (s_.2.2.2.2.1 : Value).ownBlock) (.slice Ao24 t211.length co24) t211) ∧ (Kd.N k39 39 w' w.heap.size (fun k_ => some k_ ≠ (.slice Ao17 t196.length co17 : Value).ownBlock ∧ some k_ ≠ (.slice Ao21 t202.length co21 : Value).ownBlock ∧ some k_ ≠ (.slice Ao22 t205.length co22 : Value).ownBlock ∧ some k_ ≠ (.slice Ao23 t208.length co23 : Value).ownBlock ∧ some k_ ≠ (.slice Ao24 t211.length co24 : Value).ownBlock ∧ some k_ ≠ (s_.2.1 : Value).ownBlock ∧ some k_ ≠ (s_.2.2.1 : Value).ownBlock ∧ some k_ ≠ (s_.2.2.2.1 : Value).ownBlock ∧ some k_ ≠ (s_.2.2.2.2.1 : Value).ownBlock ∧ k_ ≠ gb218 ∧ k_ ≠ s_.2.2.2.2.2) s_.1 t219) ∧ (Kd.R (Kd.int .i64) 3 w' w.heap.size (fun k_ => some k_ ≠ (.slice Ao21 t202.length co21 : Value).ownBlock ∧ some k_ ≠ (.slice Ao22 t205.length co22 : Value).ownBlock ∧ some k_ ≠ (.slice Ao23 t208.length co23 : Value).ownBlock ∧ some k_ ≠ (.slice Ao24 t211.length co24 : Value).ownBlock ∧ some k_ ≠ (s_.2.2.1 : Value).ownBlock ∧ some k_ ≠ (s_.2.2.2.1 : Value).ownBlock ∧ some k_ ≠ (s_.2.2.2.2.1 : Value).ownBlock) s_.2.1 t225) ∧ (Kd.R (Kd.int .i64) 3 w' w.heap.size (fun k_ => some k_ ≠ (.slice Ao21 t202.length co21 : Value).ownBlock ∧ some k_ ≠ (.slice Ao22 t205.length co22 : Value).ownBlock ∧ some k_ ≠ (.slice Ao23 t208.length co23 : Value).ownBlock ∧ some k_ ≠ (.slice Ao24 t211.length co24 : Value).ownBlock ∧ some k_ ≠ (s_.2.1 : Value).ownBlock ∧ some k_ ≠ (s_.2.2.2.1 : Value).ownBlock ∧ some k_ ≠ (s_.2.2.2.2.1 : Value).ownBlock) s_.2.2.1 t228) ∧ (Kd.R (Kd.int .i64) 3 w' w.heap.size (fun k_ => some k_ ≠ (.slice Ao21 t202.length co21 : Value).ownBlock ∧ some k_ ≠ (.slice Ao22 t205.length co22 : Value).ownBlock ∧ some k_ ≠ (.slice Ao23 t208.length co23 : Value).ownBlock ∧ some k_ ≠ (.slice Ao24 t211.length co24 : Value).ownBlock ∧ some k_ ≠ (s_.2.1 : Value).ownBlock ∧ some k_ ≠ (s_.2.2.1 : Value).ownBlock ∧ some k_ ≠ (s_.2.2.2.2.1 : Value).ownBlock) s_.2.2.2.1 t231) ∧ (Kd.R (Kd.int .i64) 3 w' w.heap.size (fun k_ => some k_ ≠ (.slice Ao21 t202.length co21 : Value).ownBlock ∧ some k_ ≠ (.slice Ao22 t205.length co22 : Value).ownBlock ∧ some k_ ≠ (.slice Ao23 t208.length co23 : Value).ownBlock ∧ some k_ ≠ (.slice Ao24 t211.length co24 : Value).ownBlock ∧ some k_ ≠ (s_.2.1 : Value).ownBlock ∧ some k_ ≠ (s_.2.2.1 : Value).ownBlock ∧ some k_ ≠ (s_.2.2.2.1 : Value).ownBlock) s_.2.2.2.2.1 t234) ∧ (w'.heap[gb218]? = some (.cells #[.int .i64 t199, .int .i64 t200, .int .i64 t201, .slice Ao21 t202.length co21, .slice Ao22 t205.length co22, .slice Ao23 t208.length co23, .slice Ao24 t211.length co24, .int .i64 t214, .int .i64 t215, .bool true] 25 (0, 0))) ∧ (w'.heap[s_.2.2.2.2.2]? = some (.cells #[.int .i64 0, .int .i64 0, .int .i64 0, .slice none 0 0, .slice none 0 0, .slice none 0 0, .slice none 0 0, .int .i64 0, .int .i64 0, .bool false] 25 (0, 0))) ∧ (w.heap.size ≤ s_.2.2.2.2.2) ∧ (w.heap.size ≤ s_.2.2.2.2.2) ∧ (gb218 ≠ s_.2.2.2.2.2) ∧ (s_.2.2.2.2.2 ≠ gb218) ∧ (Below w.heap.size w w')) ?_ ?_
            rotate_left
            ·intro hCont
             refine two_ (i := 0) (j := 7) (Ni := some 12) (Nj := some 3) #[true, true, false, false, false, false, false, false, false, false, false] #[false, true, false, false, false, false, false, true, false, false, false] rfl rfl rfl rfl (two_of HT_.out (by kernel_rfl)) (by decide) (by decide) (fun K hK => ?_) (fun K hK => ?_)
             ·skip
              refine goes_ Try.func32 (by kernel_rfl) rfl #[] (by rfl) rfl rfl tA_ ?_
              with_reducible refine (hinterlandlaw10_works.calls  t219 _ A3.out).mono ?_
              rintro e w27 ⟨v220, rfl, ho0, hb⟩
              refine ⟨_, rfl, ?_⟩
              have HO221 := Aside0.mk (Kd.N_lower (Kd.N_mono (ok' := fun k_ => some k_ ≠ (.slice Ao17 t196.length co17 : Value).ownBlock ∧ some k_ ≠ (.slice Ao21 t202.length co21 : Value).ownBlock ∧ some k_ ≠ (.slice Ao22 t205.length co22 : Value).ownBlock ∧ some k_ ≠ (.slice Ao23 t208.length co23 : Value).ownBlock ∧ some k_ ≠ (.slice Ao24 t211.length co24 : Value).ownBlock ∧ k_ ≠ gb218) ho0 (fun k_ hk_ => ⟨(Kd.fresh' (Kd.N_lt (by (with_reducible repeat (first | apply Kd.N_alloc | apply Kd.N_drewN | apply Kd.N_drew)); exact HO198.out)) k_ hk_), (Kd.fresh' (Kd.R_lt (dR_ HO204)) k_ hk_), (Kd.fresh' (Kd.R_lt (dR_ HO207)) k_ hk_), (Kd.fresh' (Kd.R_lt (dR_ HO210)) k_ hk_), (Kd.fresh' (Kd.R_lt (dR_ HO213)) k_ hk_), (Kd.freshB (g := gb218) (o := .cells #[.int .i64 t199, .int .i64 t200, .int .i64 t201, .slice Ao21 t202.length co21, .slice Ao22 t205.length co22, .slice Ao23 t208.length co23, .slice Ao24 t211.length co24, .int .i64 t214, .int .i64 t215, .bool true] 25 (0, 0)) (dB_ BK218) k_ hk_)⟩)) (below_size (dL1_ HB GE218)))
              replace HO198 := Aside0.mk (Kd.N_elder' (by (with_reducible repeat (first | apply Kd.N_alloc | apply Kd.N_drewN | apply Kd.N_drew)); exact HO198.out) (Kd.N_base ho0) hb)
              replace HO204 := Aside0.mk (Kd.R_below (dR_ HO204) hb)
              replace HO207 := Aside0.mk (Kd.R_below (dR_ HO207) hb)
              replace HO210 := Aside0.mk (Kd.R_below (dR_ HO210) hb)
              replace HO213 := Aside0.mk (Kd.R_below (dR_ HO213) hb)
              replace BK218 := Aside0.mk (blk_below (g := gb218) (o := .cells #[.int .i64 t199, .int .i64 t200, .int .i64 t201, .slice Ao21 t202.length co21, .slice Ao22 t205.length co22, .slice Ao23 t208.length co23, .slice Ao24 t211.length co24, .int .i64 t214, .int .i64 t215, .bool true] 25 (0, 0)) (dB_ BK218) hb)
              replace HB := Aside0.mk (below_step (dL1_ HB GE218) hb)
              (try clear hb)
              (try clear hb2)
              (try clear hk)
              (try clear hi)
              (try clear ho0)
              obtain ⟨Ao28, co28, eo28⟩ := Kd.N_slice HO221.out
              (first | subst eo28 | (injection eo28 with f1_ f2_ f3_; have f4_ := f1_.symm; have f5_ := f3_.symm; clear f1_ f2_ f3_; subst f4_; subst f5_))
              refine hK.out _ _ ⟨(blk_cell BK218.out 0).trans rfl, (blk_cell BK218.out 1).trans rfl, (blk_cell BK218.out 2).trans rfl, (blk_cell BK218.out 3).trans rfl, (blk_cell BK218.out 4).trans rfl, (blk_cell BK218.out 5).trans rfl, (blk_cell BK218.out 6).trans rfl, (blk_cell BK218.out 7).trans rfl, (blk_cell BK218.out 8).trans rfl, (blk_cell BK218.out 9).trans rfl⟩ (fun hHeld => ?_)
              clear hK K
              refine norm_ (a' := ?_) ?_ ?_
              rotate_left
              ·show Act.put _ (some 12) _ = _
               simp only [Act.put, sI_, s0_, sS_, i64_w, i32_w]
               rfl
              refine two_ (i := 2) (j := 7) (Ni := some 14) (Nj := some 3) #[true, true, true, false, false, false, false, false, false, false, false] #[true, true, false, false, false, false, false, true, false, false, false] rfl rfl rfl rfl (two_of HT_.out (by kernel_rfl)) (by decide) (by decide) (fun K hK => ?_) (fun K hK => ?_)
              ·skip
               refine goes_ Try.func20 (by kernel_rfl) rfl #[.slice Ao28 t219.length co28, .agg #[.int .i64 t199, .int .i64 t200, .int .i64 t201, .slice Ao21 t202.length co21, .slice Ao22 t205.length co22, .slice Ao23 t208.length co23, .slice Ao24 t211.length co24, .int .i64 t214, .int .i64 t215, .bool true], .int .i64 0, .int .i64 3] (by rfl) rfl rfl tA_ ?_
               with_reducible refine (plant_Bring.calls k _ _ t219 t199 t200 t201 _ _ t202 _ _ t205 _ _ t208 _ _ t211 t214 t215 true 0 3 t222 t223 t224 t225 t228 t231 t234 t237 t238 t239 t240 t241 _ ?side1 ?side2 ?side3 ?side4 ?side5 ?side6 ?side7 ?side8 ?side9 ?side10 A4.out).mono ?_
               (case side1 => repeat (first | exact (Kd.N_reads' HO221.out).2.2 | (with_reducible refine Kd.C_alloc ?_ _) | (with_reducible refine Kd.C_drewN ?_ _) | (with_reducible refine Kd.C_drew ?_)))
               (case side2 => exact (Kd.N_reads' HO221.out).2.1)
               (case side3 => repeat (first | exact (Kd.R_reads' HO204.out).2.2 | (with_reducible refine Kd.C_alloc ?_ _) | (with_reducible refine Kd.C_drewN ?_ _) | (with_reducible refine Kd.C_drew ?_)))
               (case side4 => exact (Kd.R_reads' HO204.out).2.1)
               (case side5 => repeat (first | exact (Kd.R_reads' HO207.out).2.2 | (with_reducible refine Kd.C_alloc ?_ _) | (with_reducible refine Kd.C_drewN ?_ _) | (with_reducible refine Kd.C_drew ?_)))
               (case side6 => exact (Kd.R_reads' HO207.out).2.1)
               (case side7 => repeat (first | exact (Kd.R_reads' HO210.out).2.2 | (with_reducible refine Kd.C_alloc ?_ _) | (with_reducible refine Kd.C_drewN ?_ _) | (with_reducible refine Kd.C_drew ?_)))
               (case side8 => exact (Kd.R_reads' HO210.out).2.1)
               (case side9 => repeat (first | exact (Kd.R_reads' HO213.out).2.2 | (with_reducible refine Kd.C_alloc ?_ _) | (with_reducible refine Kd.C_drewN ?_ _) | (with_reducible refine Kd.C_drew ?_)))
               (case side10 => exact (Kd.R_reads' HO213.out).2.1)
               rintro e w29 ⟨v226, v229, v232, v235, rfl, ho0, ho1, ho2, ho3, hb⟩
               refine ⟨_, rfl, ?_⟩
               replace HO198 := Aside0.mk (Kd.N_mono (Kd.N_told (Kd.N_told (Kd.N_told (Kd.N_told (Kd.N_old (by (with_reducible repeat (first | apply Kd.N_alloc | apply Kd.N_drewN | apply Kd.N_drew)); exact HO198.out) hb) (Kd.R_base ho0)) (Kd.R_base ho1)) (Kd.R_base ho2)) (Kd.R_base ho3)) (fun _ h_ => h_.1))
               replace HO221 := Aside0.mk (Kd.N_mono (Kd.N_told (Kd.N_told (Kd.N_told (Kd.N_told (Kd.N_old (by (with_reducible repeat (first | apply Kd.N_alloc | apply Kd.N_drewN | apply Kd.N_drew)); exact HO221.out) hb) (Kd.R_base ho0)) (Kd.R_base ho1)) (Kd.R_base ho2)) (Kd.R_base ho3)) (fun _ h_ => h_.1))
               have HO227 := Aside0.mk (Kd.R_lower (Kd.R_new' (Kd.R_new' (Kd.R_new' (Kd.R_new' ho0 (Kd.R_lt (dR_ HO204))) (Kd.R_lt (dR_ HO207))) (Kd.R_lt (dR_ HO210))) (Kd.R_lt (dR_ HO213))) (below_size (dL1_ HB GE218)))
               have HO230 := Aside0.mk (Kd.R_lower (Kd.R_new' (Kd.R_new' (Kd.R_new' (Kd.R_new' ho1 (Kd.R_lt (dR_ HO204))) (Kd.R_lt (dR_ HO207))) (Kd.R_lt (dR_ HO210))) (Kd.R_lt (dR_ HO213))) (below_size (dL1_ HB GE218)))
               have HO233 := Aside0.mk (Kd.R_lower (Kd.R_new' (Kd.R_new' (Kd.R_new' (Kd.R_new' ho2 (Kd.R_lt (dR_ HO204))) (Kd.R_lt (dR_ HO207))) (Kd.R_lt (dR_ HO210))) (Kd.R_lt (dR_ HO213))) (below_size (dL1_ HB GE218)))
               have HO236 := Aside0.mk (Kd.R_lower (Kd.R_new' (Kd.R_new' (Kd.R_new' (Kd.R_new' ho3 (Kd.R_lt (dR_ HO204))) (Kd.R_lt (dR_ HO207))) (Kd.R_lt (dR_ HO210))) (Kd.R_lt (dR_ HO213))) (below_size (dL1_ HB GE218)))
               replace HO204 := Aside0.mk (Kd.R_mono (Kd.R_told (Kd.R_told (Kd.R_told (Kd.R_told (Kd.R_old (dR_ HO204) hb) (Kd.R_base ho0)) (Kd.R_base ho1)) (Kd.R_base ho2)) (Kd.R_base ho3)) (fun _ h_ => h_.1))
               replace HO207 := Aside0.mk (Kd.R_mono (Kd.R_told (Kd.R_told (Kd.R_told (Kd.R_told (Kd.R_old (dR_ HO207) hb) (Kd.R_base ho0)) (Kd.R_base ho1)) (Kd.R_base ho2)) (Kd.R_base ho3)) (fun _ h_ => h_.1))
               replace HO210 := Aside0.mk (Kd.R_mono (Kd.R_told (Kd.R_told (Kd.R_told (Kd.R_told (Kd.R_old (dR_ HO210) hb) (Kd.R_base ho0)) (Kd.R_base ho1)) (Kd.R_base ho2)) (Kd.R_base ho3)) (fun _ h_ => h_.1))
               replace HO213 := Aside0.mk (Kd.R_mono (Kd.R_told (Kd.R_told (Kd.R_told (Kd.R_told (Kd.R_old (dR_ HO213) hb) (Kd.R_base ho0)) (Kd.R_base ho1)) (Kd.R_base ho2)) (Kd.R_base ho3)) (fun _ h_ => h_.1))
               replace BK218 := Aside0.mk (blk_below (g := gb218) (o := .cells #[.int .i64 t199, .int .i64 t200, .int .i64 t201, .slice Ao21 t202.length co21, .slice Ao22 t205.length co22, .slice Ao23 t208.length co23, .slice Ao24 t211.length co24, .int .i64 t214, .int .i64 t215, .bool true] 25 (0, 0)) (dB_ BK218) hb)
               replace HB := Aside0.mk (below_step (dL1_ HB GE218) hb)
               (try clear hb)
               (try clear hb2)
               (try clear hk)
               (try clear hi)
               (try clear ho0)
               (try clear ho1)
               (try clear ho2)
               (try clear ho3)
               refine hK.out _ _ ⟨(blk_cell BK218.out 0).trans rfl, (blk_cell BK218.out 1).trans rfl, (blk_cell BK218.out 2).trans rfl, (blk_cell BK218.out 3).trans rfl, (blk_cell BK218.out 4).trans rfl, (blk_cell BK218.out 5).trans rfl, (blk_cell BK218.out 6).trans rfl, (blk_cell BK218.out 7).trans rfl, (blk_cell BK218.out 8).trans rfl, (blk_cell BK218.out 9).trans rfl⟩ (fun hHeld => ?_)
               clear hK K
               refine norm_ (a' := ?_) ?_ ?_
               rotate_left
               ·show Act.put _ (some 14) _ = _
                simp only [Act.put, sI_, s0_, sS_, i64_w, i32_w]
                rfl
               refine pure_ (i := 3) (N := some 11) (v := ?_) (a' := ?_) (bA 4 11) rfl rfl (any_of HT_.out (by kernel_rfl)) (fun _ _ _ h => h) (Or.inl ⟨by rfl, ?_⟩) ?_ ?_; rotate_left; (intro w'; go_simp; with_reducible rfl); rotate_left; (simp only [Act.put, sI_, s0_, sS_, i64_w, i32_w]; rfl)
               refine pure_ (i := 4) (N := some 15) (v := ?_) (a' := ?_) (bA 5 11) rfl rfl (any_of HT_.out (by kernel_rfl)) (fun _ _ _ h => h) (Or.inl ⟨by rfl, ?_⟩) ?_ ?_; rotate_left; (intro w'; go_simp; with_reducible rfl); rotate_left; (simp only [Act.put, sI_, s0_, sS_, i64_w, i32_w]; rfl)
               refine pure_ (i := 5) (N := some 16) (v := ?_) (a' := ?_) (bA 6 11) rfl rfl (any_of HT_.out (by kernel_rfl)) (fun _ _ _ h => h) (Or.inl ⟨by rfl, ?_⟩) ?_ ?_; rotate_left; (intro w'; go_simp; with_reducible rfl); rotate_left; (simp only [Act.put, sI_, s0_, sS_, i64_w, i32_w]; rfl)
               refine pure_ (i := 6) (N := some 17) (v := ?_) (a' := ?_) (bA 7 11) rfl rfl (any_of HT_.out (by kernel_rfl)) (fun _ _ _ h => h) (Or.inl ⟨by rfl, ?_⟩) ?_ ?_; rotate_left; (intro w'; go_simp; with_reducible rfl); rotate_left; (simp only [Act.put, sI_, s0_, sS_, i64_w, i32_w]; rfl)
               refine one_ (i := 7) (N := some 3) (bA 8 11) rfl rfl (one_of HT_.out (by kernel_rfl)) (by decide) (fun K hK => ?_)
               refine box_step ?hg (N := 3) ?hd (cs := #[.int .i64 0, .int .i64 0, .int .i64 0, .slice none 0 0, .slice none 0 0, .slice none 0 0, .slice none 0 0, .int .i64 0, .int .i64 0, .bool false]) (t := 25) ?hr ?_; (case hd => rfl); (case hg => rfl); (case hr => first | (go_simp; done) | (go_simp; rfl))
               intro gb242 hg w30 hbox hb
               replace HO198 := Aside0.mk (Kd.N_below (Kd.N_elderB (by (with_reducible repeat (first | apply Kd.N_alloc | apply Kd.N_drewN | apply Kd.N_drew)); exact HO198.out) gb242 (Nat.le_of_eq hg.symm)) hb)
               replace HO204 := Aside0.mk (Kd.R_below (dR_ HO204) hb)
               replace HO207 := Aside0.mk (Kd.R_below (dR_ HO207) hb)
               replace HO210 := Aside0.mk (Kd.R_below (dR_ HO210) hb)
               replace HO213 := Aside0.mk (Kd.R_below (dR_ HO213) hb)
               replace HO221 := Aside0.mk (Kd.N_below (Kd.N_elderB (by (with_reducible repeat (first | apply Kd.N_alloc | apply Kd.N_drewN | apply Kd.N_drew)); exact HO221.out) gb242 (Nat.le_of_eq hg.symm)) hb)
               replace HO227 := Aside0.mk (Kd.R_below (dR_ HO227) hb)
               replace HO230 := Aside0.mk (Kd.R_below (dR_ HO230) hb)
               replace HO233 := Aside0.mk (Kd.R_below (dR_ HO233) hb)
               replace HO236 := Aside0.mk (Kd.R_below (dR_ HO236) hb)
               have BK242 := Aside0.mk (hbox)
               have GW242 := Aside0.mk ((dS_ hg (dL1_ HB GE218) : w.heap.size ≤ gb242))
               have GE242 := Aside0.mk ((dS_ hg (dL1_ HB GE218) : w.heap.size ≤ gb242))
               replace HB := Aside0.mk (below_step (dL1_ HB GE218) hb)
               have NB218_242 := Aside0.mk ((by rw [hg]; exact Nat.ne_of_lt (blk_lt (dB_ BK218)) : gb218 ≠ gb242))
               have NB242_218 := Aside0.mk ((by rw [hg]; exact Nat.ne_of_gt (blk_lt (dB_ BK218)) : gb242 ≠ gb218))
               replace BK218 := Aside0.mk (blk_below (g := gb218) (o := .cells #[.int .i64 t199, .int .i64 t200, .int .i64 t201, .slice Ao21 t202.length co21, .slice Ao22 t205.length co22, .slice Ao23 t208.length co23, .slice Ao24 t211.length co24, .int .i64 t214, .int .i64 t215, .bool true] 25 (0, 0)) (dB_ BK218) hb)
               clear hb hbox hg
               refine hK.out _ _ ⟨(blk_cell BK218.out 0).trans rfl, (blk_cell BK218.out 1).trans rfl, (blk_cell BK218.out 2).trans rfl, (blk_cell BK218.out 3).trans rfl, (blk_cell BK218.out 4).trans rfl, (blk_cell BK218.out 5).trans rfl, (blk_cell BK218.out 6).trans rfl, (blk_cell BK218.out 7).trans rfl, (blk_cell BK218.out 8).trans rfl, (blk_cell BK218.out 9).trans rfl⟩ (fun hHeld => ?_)
               clear hK K
               refine norm_ (a' := ?_) ?_ ?_
               rotate_left
               ·show Act.put _ (some 3) _ = _
                simp only [Act.put, sI_, s0_, sS_, i64_w, i32_w]
                rfl
               exact norm_ (by simp only [putAll, Act.put, sI_, s0_, sS_]) (hCont (.slice Ao28 t219.length co28, v226, v229, v232, v235, gb242) _ ⟨hHeld, (by (with_reducible repeat (first | apply Kd.N_alloc | apply Kd.N_drewN | apply Kd.N_drew)); exact Kd.N_mono HO198.out (fun _ hk => ⟨hk.1.1.1.1.1.1.1, ⟨hk.1.1.1.1.1.1.2.1, ⟨hk.1.1.1.1.1.1.2.2.1, ⟨hk.1.1.1.1.1.1.2.2.2.1, ⟨hk.1.1.1.1.1.2, ⟨hk.1.1.1.1.2, ⟨hk.1.1.1.2, ⟨hk.1.1.2, ⟨hk.1.2, ⟨hk.1.1.1.1.1.1.2.2.2.2, hk.2⟩⟩⟩⟩⟩⟩⟩⟩⟩⟩)), (by (with_reducible repeat (first | apply Kd.R_alloc | apply Kd.R_drewN | apply Kd.R_drew)); exact Kd.R_mono HO204.out (fun _ hk => ⟨hk.1.1.1.1.1, ⟨hk.1.1.1.1.2.1, ⟨hk.1.1.1.1.2.2, ⟨hk.1.1.1.2, ⟨hk.1.1.2, ⟨hk.1.2, hk.2⟩⟩⟩⟩⟩⟩)), (by (with_reducible repeat (first | apply Kd.R_alloc | apply Kd.R_drewN | apply Kd.R_drew)); exact Kd.R_mono HO207.out (fun _ hk => ⟨hk.1.1.1.1.1, ⟨hk.1.1.1.1.2.1, ⟨hk.1.1.1.1.2.2, ⟨hk.1.1.1.2, ⟨hk.1.1.2, ⟨hk.1.2, hk.2⟩⟩⟩⟩⟩⟩)), (by (with_reducible repeat (first | apply Kd.R_alloc | apply Kd.R_drewN | apply Kd.R_drew)); exact Kd.R_mono HO210.out (fun _ hk => ⟨hk.1.1.1.1.1, ⟨hk.1.1.1.1.2.1, ⟨hk.1.1.1.1.2.2, ⟨hk.1.1.1.2, ⟨hk.1.1.2, ⟨hk.1.2, hk.2⟩⟩⟩⟩⟩⟩)), (by (with_reducible repeat (first | apply Kd.R_alloc | apply Kd.R_drewN | apply Kd.R_drew)); exact Kd.R_mono HO213.out (fun _ hk => ⟨hk.1.1.1.1.1, ⟨hk.1.1.1.1.2.1, ⟨hk.1.1.1.1.2.2, ⟨hk.1.1.1.2, ⟨hk.1.1.2, ⟨hk.1.2, hk.2⟩⟩⟩⟩⟩⟩)), (by (with_reducible repeat (first | apply Kd.N_alloc | apply Kd.N_drewN | apply Kd.N_drew)); exact Kd.N_mono HO221.out (fun _ hk => ⟨hk.1.1.1.1.1.1, ⟨hk.1.1.1.1.1.2.1, ⟨hk.1.1.1.1.1.2.2.1, ⟨hk.1.1.1.1.1.2.2.2.1, ⟨hk.1.1.1.1.1.2.2.2.2.1, ⟨hk.1.1.1.1.2, ⟨hk.1.1.1.2, ⟨hk.1.1.2, ⟨hk.1.2, ⟨hk.1.1.1.1.1.2.2.2.2.2, hk.2⟩⟩⟩⟩⟩⟩⟩⟩⟩⟩)), (by (with_reducible repeat (first | apply Kd.R_alloc | apply Kd.R_drewN | apply Kd.R_drew)); exact Kd.R_mono HO227.out (fun _ hk => ⟨hk.1.1.1.2, ⟨hk.1.1.2, ⟨hk.1.2, ⟨hk.2, ⟨hk.1.1.1.1.1, ⟨hk.1.1.1.1.2.1, hk.1.1.1.1.2.2⟩⟩⟩⟩⟩⟩)), (by (with_reducible repeat (first | apply Kd.R_alloc | apply Kd.R_drewN | apply Kd.R_drew)); exact Kd.R_mono HO230.out (fun _ hk => ⟨hk.1.1.1.2, ⟨hk.1.1.2, ⟨hk.1.2, ⟨hk.2, ⟨hk.1.1.1.1.1, ⟨hk.1.1.1.1.2.1, hk.1.1.1.1.2.2⟩⟩⟩⟩⟩⟩)), (by (with_reducible repeat (first | apply Kd.R_alloc | apply Kd.R_drewN | apply Kd.R_drew)); exact Kd.R_mono HO233.out (fun _ hk => ⟨hk.1.1.1.2, ⟨hk.1.1.2, ⟨hk.1.2, ⟨hk.2, ⟨hk.1.1.1.1.1, ⟨hk.1.1.1.1.2.1, hk.1.1.1.1.2.2⟩⟩⟩⟩⟩⟩)), (by (with_reducible repeat (first | apply Kd.R_alloc | apply Kd.R_drewN | apply Kd.R_drew)); exact Kd.R_mono HO236.out (fun _ hk => ⟨hk.1.1.1.2, ⟨hk.1.1.2, ⟨hk.1.2, ⟨hk.2, ⟨hk.1.1.1.1.1, ⟨hk.1.1.1.1.2.1, hk.1.1.1.1.2.2⟩⟩⟩⟩⟩⟩)), (dB_ BK218), (dB_ BK242), GW242.out, GE242.out, NB218_242.out, NB242_218.out, (dL2_ HB GE218 GE242)⟩)
              ·skip
               refine box_step ?hg (N := 3) ?hd (cs := #[.int .i64 0, .int .i64 0, .int .i64 0, .slice none 0 0, .slice none 0 0, .slice none 0 0, .slice none 0 0, .int .i64 0, .int .i64 0, .bool false]) (t := 25) ?hr ?_; (case hd => rfl); (case hg => rfl); (case hr => first | (go_simp; done) | (go_simp; rfl))
               intro gb242 hg w28 hbox hb
               replace HO198 := Aside0.mk (Kd.N_below (Kd.N_elderB (by (with_reducible repeat (first | apply Kd.N_alloc | apply Kd.N_drewN | apply Kd.N_drew)); exact HO198.out) gb242 (Nat.le_of_eq hg.symm)) hb)
               replace HO204 := Aside0.mk (Kd.R_below (dR_ HO204) hb)
               replace HO207 := Aside0.mk (Kd.R_below (dR_ HO207) hb)
               replace HO210 := Aside0.mk (Kd.R_below (dR_ HO210) hb)
               replace HO213 := Aside0.mk (Kd.R_below (dR_ HO213) hb)
               replace HO221 := Aside0.mk (Kd.N_below (Kd.N_elderB (by (with_reducible repeat (first | apply Kd.N_alloc | apply Kd.N_drewN | apply Kd.N_drew)); exact HO221.out) gb242 (Nat.le_of_eq hg.symm)) hb)
               have BK242 := Aside0.mk (hbox)
               have GW242 := Aside0.mk ((dS_ hg (dL1_ HB GE218) : w.heap.size ≤ gb242))
               have GE242 := Aside0.mk ((dS_ hg (dL1_ HB GE218) : w.heap.size ≤ gb242))
               replace HB := Aside0.mk (below_step (dL1_ HB GE218) hb)
               have NB218_242 := Aside0.mk ((by rw [hg]; exact Nat.ne_of_lt (blk_lt (dB_ BK218)) : gb218 ≠ gb242))
               have NB242_218 := Aside0.mk ((by rw [hg]; exact Nat.ne_of_gt (blk_lt (dB_ BK218)) : gb242 ≠ gb218))
               replace BK218 := Aside0.mk (blk_below (g := gb218) (o := .cells #[.int .i64 t199, .int .i64 t200, .int .i64 t201, .slice Ao21 t202.length co21, .slice Ao22 t205.length co22, .slice Ao23 t208.length co23, .slice Ao24 t211.length co24, .int .i64 t214, .int .i64 t215, .bool true] 25 (0, 0)) (dB_ BK218) hb)
               clear hb hbox hg
               obtain ⟨Ao29, co29, eo29⟩ := Kd.N_slice HO221.out
               (first | subst eo29 | (injection eo29 with f1_ f2_ f3_; have f4_ := f1_.symm; have f5_ := f3_.symm; clear f1_ f2_ f3_; subst f4_; subst f5_))
               refine hK.out _ _ ⟨(blk_cell BK218.out 0).trans rfl, (blk_cell BK218.out 1).trans rfl, (blk_cell BK218.out 2).trans rfl, (blk_cell BK218.out 3).trans rfl, (blk_cell BK218.out 4).trans rfl, (blk_cell BK218.out 5).trans rfl, (blk_cell BK218.out 6).trans rfl, (blk_cell BK218.out 7).trans rfl, (blk_cell BK218.out 8).trans rfl, (blk_cell BK218.out 9).trans rfl⟩ (fun hHeld => ?_)
               clear hK K
               refine norm_ (a' := ?_) ?_ ?_
               rotate_left
               ·show Act.put _ (some 3) _ = _
                simp only [Act.put, sI_, s0_, sS_, i64_w, i32_w]
                rfl
               refine one_ (i := 2) (N := some 14) #[true, true, true, false, false, false, false, true, false, false, false] rfl rfl (one_of HT_.out (by kernel_rfl)) (by decide) (fun K hK => ?_)
               refine goes_ Try.func20 (by kernel_rfl) rfl #[.slice Ao29 t219.length co29, .agg #[.int .i64 t199, .int .i64 t200, .int .i64 t201, .slice Ao21 t202.length co21, .slice Ao22 t205.length co22, .slice Ao23 t208.length co23, .slice Ao24 t211.length co24, .int .i64 t214, .int .i64 t215, .bool true], .int .i64 0, .int .i64 3] (by rfl) rfl rfl tA_ ?_
               with_reducible refine (plant_Bring.calls k _ _ t219 t199 t200 t201 _ _ t202 _ _ t205 _ _ t208 _ _ t211 t214 t215 true 0 3 t222 t223 t224 t225 t228 t231 t234 t237 t238 t239 t240 t241 _ ?side1 ?side2 ?side3 ?side4 ?side5 ?side6 ?side7 ?side8 ?side9 ?side10 A4.out).mono ?_
               (case side1 => repeat (first | exact (Kd.N_reads' HO221.out).2.2 | (with_reducible refine Kd.C_alloc ?_ _) | (with_reducible refine Kd.C_drewN ?_ _) | (with_reducible refine Kd.C_drew ?_)))
               (case side2 => exact (Kd.N_reads' HO221.out).2.1)
               (case side3 => repeat (first | exact (Kd.R_reads' HO204.out).2.2 | (with_reducible refine Kd.C_alloc ?_ _) | (with_reducible refine Kd.C_drewN ?_ _) | (with_reducible refine Kd.C_drew ?_)))
               (case side4 => exact (Kd.R_reads' HO204.out).2.1)
               (case side5 => repeat (first | exact (Kd.R_reads' HO207.out).2.2 | (with_reducible refine Kd.C_alloc ?_ _) | (with_reducible refine Kd.C_drewN ?_ _) | (with_reducible refine Kd.C_drew ?_)))
               (case side6 => exact (Kd.R_reads' HO207.out).2.1)
               (case side7 => repeat (first | exact (Kd.R_reads' HO210.out).2.2 | (with_reducible refine Kd.C_alloc ?_ _) | (with_reducible refine Kd.C_drewN ?_ _) | (with_reducible refine Kd.C_drew ?_)))
               (case side8 => exact (Kd.R_reads' HO210.out).2.1)
               (case side9 => repeat (first | exact (Kd.R_reads' HO213.out).2.2 | (with_reducible refine Kd.C_alloc ?_ _) | (with_reducible refine Kd.C_drewN ?_ _) | (with_reducible refine Kd.C_drew ?_)))
               (case side10 => exact (Kd.R_reads' HO213.out).2.1)
               rintro e w30 ⟨v226, v229, v232, v235, rfl, ho0, ho1, ho2, ho3, hb⟩
               refine ⟨_, rfl, ?_⟩
               replace HO198 := Aside0.mk (Kd.N_mono (Kd.N_told (Kd.N_told (Kd.N_told (Kd.N_told (Kd.N_old (by (with_reducible repeat (first | apply Kd.N_alloc | apply Kd.N_drewN | apply Kd.N_drew)); exact HO198.out) hb) (Kd.R_base ho0)) (Kd.R_base ho1)) (Kd.R_base ho2)) (Kd.R_base ho3)) (fun _ h_ => h_.1))
               replace HO221 := Aside0.mk (Kd.N_mono (Kd.N_told (Kd.N_told (Kd.N_told (Kd.N_told (Kd.N_old (by (with_reducible repeat (first | apply Kd.N_alloc | apply Kd.N_drewN | apply Kd.N_drew)); exact HO221.out) hb) (Kd.R_base ho0)) (Kd.R_base ho1)) (Kd.R_base ho2)) (Kd.R_base ho3)) (fun _ h_ => h_.1))
               have HO227 := Aside0.mk (Kd.R_lower (Kd.R_new' (Kd.R_new' (Kd.R_new' (Kd.R_new' ho0 (Kd.R_lt (dR_ HO204))) (Kd.R_lt (dR_ HO207))) (Kd.R_lt (dR_ HO210))) (Kd.R_lt (dR_ HO213))) (below_size (dL2_ HB GE218 GE242)))
               have HO230 := Aside0.mk (Kd.R_lower (Kd.R_new' (Kd.R_new' (Kd.R_new' (Kd.R_new' ho1 (Kd.R_lt (dR_ HO204))) (Kd.R_lt (dR_ HO207))) (Kd.R_lt (dR_ HO210))) (Kd.R_lt (dR_ HO213))) (below_size (dL2_ HB GE218 GE242)))
               have HO233 := Aside0.mk (Kd.R_lower (Kd.R_new' (Kd.R_new' (Kd.R_new' (Kd.R_new' ho2 (Kd.R_lt (dR_ HO204))) (Kd.R_lt (dR_ HO207))) (Kd.R_lt (dR_ HO210))) (Kd.R_lt (dR_ HO213))) (below_size (dL2_ HB GE218 GE242)))
               have HO236 := Aside0.mk (Kd.R_lower (Kd.R_new' (Kd.R_new' (Kd.R_new' (Kd.R_new' ho3 (Kd.R_lt (dR_ HO204))) (Kd.R_lt (dR_ HO207))) (Kd.R_lt (dR_ HO210))) (Kd.R_lt (dR_ HO213))) (below_size (dL2_ HB GE218 GE242)))
               replace HO204 := Aside0.mk (Kd.R_mono (Kd.R_told (Kd.R_told (Kd.R_told (Kd.R_told (Kd.R_old (dR_ HO204) hb) (Kd.R_base ho0)) (Kd.R_base ho1)) (Kd.R_base ho2)) (Kd.R_base ho3)) (fun _ h_ => h_.1))
               replace HO207 := Aside0.mk (Kd.R_mono (Kd.R_told (Kd.R_told (Kd.R_told (Kd.R_told (Kd.R_old (dR_ HO207) hb) (Kd.R_base ho0)) (Kd.R_base ho1)) (Kd.R_base ho2)) (Kd.R_base ho3)) (fun _ h_ => h_.1))
               replace HO210 := Aside0.mk (Kd.R_mono (Kd.R_told (Kd.R_told (Kd.R_told (Kd.R_told (Kd.R_old (dR_ HO210) hb) (Kd.R_base ho0)) (Kd.R_base ho1)) (Kd.R_base ho2)) (Kd.R_base ho3)) (fun _ h_ => h_.1))
               replace HO213 := Aside0.mk (Kd.R_mono (Kd.R_told (Kd.R_told (Kd.R_told (Kd.R_told (Kd.R_old (dR_ HO213) hb) (Kd.R_base ho0)) (Kd.R_base ho1)) (Kd.R_base ho2)) (Kd.R_base ho3)) (fun _ h_ => h_.1))
               replace BK218 := Aside0.mk (blk_below (g := gb218) (o := .cells #[.int .i64 t199, .int .i64 t200, .int .i64 t201, .slice Ao21 t202.length co21, .slice Ao22 t205.length co22, .slice Ao23 t208.length co23, .slice Ao24 t211.length co24, .int .i64 t214, .int .i64 t215, .bool true] 25 (0, 0)) (dB_ BK218) hb)
               replace BK242 := Aside0.mk (blk_below (g := gb242) (o := .cells #[.int .i64 0, .int .i64 0, .int .i64 0, .slice none 0 0, .slice none 0 0, .slice none 0 0, .slice none 0 0, .int .i64 0, .int .i64 0, .bool false] 25 (0, 0)) (dB_ BK242) hb)
               replace HB := Aside0.mk (below_step (dL2_ HB GE218 GE242) hb)
               (try clear hb)
               (try clear hb2)
               (try clear hk)
               (try clear hi)
               (try clear ho0)
               (try clear ho1)
               (try clear ho2)
               (try clear ho3)
               refine hK.out _ _ ⟨(blk_cell BK218.out 0).trans rfl, (blk_cell BK218.out 1).trans rfl, (blk_cell BK218.out 2).trans rfl, (blk_cell BK218.out 3).trans rfl, (blk_cell BK218.out 4).trans rfl, (blk_cell BK218.out 5).trans rfl, (blk_cell BK218.out 6).trans rfl, (blk_cell BK218.out 7).trans rfl, (blk_cell BK218.out 8).trans rfl, (blk_cell BK218.out 9).trans rfl⟩ (fun hHeld => ?_)
               clear hK K
               refine norm_ (a' := ?_) ?_ ?_
               rotate_left
               ·show Act.put _ (some 14) _ = _
                simp only [Act.put, sI_, s0_, sS_, i64_w, i32_w]
                rfl
               refine pure_ (i := 3) (N := some 11) (v := ?_) (a' := ?_) #[true, true, true, true, false, false, false, true, false, false, false] rfl rfl (any_of HT_.out (by kernel_rfl)) (fun _ _ _ h => h) (Or.inl ⟨by rfl, ?_⟩) ?_ ?_; rotate_left; (intro w'; go_simp; with_reducible rfl); rotate_left; (simp only [Act.put, sI_, s0_, sS_, i64_w, i32_w]; rfl)
               refine pure_ (i := 4) (N := some 15) (v := ?_) (a' := ?_) #[true, true, true, true, true, false, false, true, false, false, false] rfl rfl (any_of HT_.out (by kernel_rfl)) (fun _ _ _ h => h) (Or.inl ⟨by rfl, ?_⟩) ?_ ?_; rotate_left; (intro w'; go_simp; with_reducible rfl); rotate_left; (simp only [Act.put, sI_, s0_, sS_, i64_w, i32_w]; rfl)
               refine pure_ (i := 5) (N := some 16) (v := ?_) (a' := ?_) #[true, true, true, true, true, true, false, true, false, false, false] rfl rfl (any_of HT_.out (by kernel_rfl)) (fun _ _ _ h => h) (Or.inl ⟨by rfl, ?_⟩) ?_ ?_; rotate_left; (intro w'; go_simp; with_reducible rfl); rotate_left; (simp only [Act.put, sI_, s0_, sS_, i64_w, i32_w]; rfl)
               refine pure_ (i := 6) (N := some 17) (v := ?_) (a' := ?_) (bA 8 11) rfl rfl (any_of HT_.out (by kernel_rfl)) (fun _ _ _ h => h) (Or.inl ⟨by rfl, ?_⟩) ?_ ?_; rotate_left; (intro w'; go_simp; with_reducible rfl); rotate_left; (simp only [Act.put, sI_, s0_, sS_, i64_w, i32_w]; rfl)
               exact norm_ (by simp only [putAll, Act.put, sI_, s0_, sS_]) (hCont (.slice Ao29 t219.length co29, v226, v229, v232, v235, gb242) _ ⟨hHeld, (by (with_reducible repeat (first | apply Kd.N_alloc | apply Kd.N_drewN | apply Kd.N_drew)); exact Kd.N_mono HO198.out (fun _ hk => ⟨hk.1.1.1.1.1.1.1, ⟨hk.1.1.1.1.1.1.2.1, ⟨hk.1.1.1.1.1.1.2.2.1, ⟨hk.1.1.1.1.1.1.2.2.2.1, ⟨hk.1.1.1.1.1.2, ⟨hk.1.1.1.2, ⟨hk.1.1.2, ⟨hk.1.2, ⟨hk.2, ⟨hk.1.1.1.1.1.1.2.2.2.2, hk.1.1.1.1.2⟩⟩⟩⟩⟩⟩⟩⟩⟩⟩)), (by (with_reducible repeat (first | apply Kd.R_alloc | apply Kd.R_drewN | apply Kd.R_drew)); exact Kd.R_mono HO204.out (fun _ hk => ⟨hk.1.1.1.1.1, ⟨hk.1.1.1.1.2.1, ⟨hk.1.1.1.1.2.2, ⟨hk.1.1.1.2, ⟨hk.1.1.2, ⟨hk.1.2, hk.2⟩⟩⟩⟩⟩⟩)), (by (with_reducible repeat (first | apply Kd.R_alloc | apply Kd.R_drewN | apply Kd.R_drew)); exact Kd.R_mono HO207.out (fun _ hk => ⟨hk.1.1.1.1.1, ⟨hk.1.1.1.1.2.1, ⟨hk.1.1.1.1.2.2, ⟨hk.1.1.1.2, ⟨hk.1.1.2, ⟨hk.1.2, hk.2⟩⟩⟩⟩⟩⟩)), (by (with_reducible repeat (first | apply Kd.R_alloc | apply Kd.R_drewN | apply Kd.R_drew)); exact Kd.R_mono HO210.out (fun _ hk => ⟨hk.1.1.1.1.1, ⟨hk.1.1.1.1.2.1, ⟨hk.1.1.1.1.2.2, ⟨hk.1.1.1.2, ⟨hk.1.1.2, ⟨hk.1.2, hk.2⟩⟩⟩⟩⟩⟩)), (by (with_reducible repeat (first | apply Kd.R_alloc | apply Kd.R_drewN | apply Kd.R_drew)); exact Kd.R_mono HO213.out (fun _ hk => ⟨hk.1.1.1.1.1, ⟨hk.1.1.1.1.2.1, ⟨hk.1.1.1.1.2.2, ⟨hk.1.1.1.2, ⟨hk.1.1.2, ⟨hk.1.2, hk.2⟩⟩⟩⟩⟩⟩)), (by (with_reducible repeat (first | apply Kd.N_alloc | apply Kd.N_drewN | apply Kd.N_drew)); exact Kd.N_mono HO221.out (fun _ hk => ⟨hk.1.1.1.1.1.1, ⟨hk.1.1.1.1.1.2.1, ⟨hk.1.1.1.1.1.2.2.1, ⟨hk.1.1.1.1.1.2.2.2.1, ⟨hk.1.1.1.1.1.2.2.2.2.1, ⟨hk.1.1.1.2, ⟨hk.1.1.2, ⟨hk.1.2, ⟨hk.2, ⟨hk.1.1.1.1.1.2.2.2.2.2, hk.1.1.1.1.2⟩⟩⟩⟩⟩⟩⟩⟩⟩⟩)), (by (with_reducible repeat (first | apply Kd.R_alloc | apply Kd.R_drewN | apply Kd.R_drew)); exact Kd.R_mono HO227.out (fun _ hk => ⟨hk.1.1.1.2, ⟨hk.1.1.2, ⟨hk.1.2, ⟨hk.2, ⟨hk.1.1.1.1.1, ⟨hk.1.1.1.1.2.1, hk.1.1.1.1.2.2⟩⟩⟩⟩⟩⟩)), (by (with_reducible repeat (first | apply Kd.R_alloc | apply Kd.R_drewN | apply Kd.R_drew)); exact Kd.R_mono HO230.out (fun _ hk => ⟨hk.1.1.1.2, ⟨hk.1.1.2, ⟨hk.1.2, ⟨hk.2, ⟨hk.1.1.1.1.1, ⟨hk.1.1.1.1.2.1, hk.1.1.1.1.2.2⟩⟩⟩⟩⟩⟩)), (by (with_reducible repeat (first | apply Kd.R_alloc | apply Kd.R_drewN | apply Kd.R_drew)); exact Kd.R_mono HO233.out (fun _ hk => ⟨hk.1.1.1.2, ⟨hk.1.1.2, ⟨hk.1.2, ⟨hk.2, ⟨hk.1.1.1.1.1, ⟨hk.1.1.1.1.2.1, hk.1.1.1.1.2.2⟩⟩⟩⟩⟩⟩)), (by (with_reducible repeat (first | apply Kd.R_alloc | apply Kd.R_drewN | apply Kd.R_drew)); exact Kd.R_mono HO236.out (fun _ hk => ⟨hk.1.1.1.2, ⟨hk.1.1.2, ⟨hk.1.2, ⟨hk.2, ⟨hk.1.1.1.1.1, ⟨hk.1.1.1.1.2.1, hk.1.1.1.1.2.2⟩⟩⟩⟩⟩⟩)), (dB_ BK218), (dB_ BK242), GW242.out, GE242.out, NB218_242.out, NB242_218.out, (dL2_ HB GE218 GE242)⟩)
             ·skip
              refine box_step ?hg (N := 3) ?hd (cs := #[.int .i64 0, .int .i64 0, .int .i64 0, .slice none 0 0, .slice none 0 0, .slice none 0 0, .slice none 0 0, .int .i64 0, .int .i64 0, .bool false]) (t := 25) ?hr ?_; (case hd => rfl); (case hg => rfl); (case hr => first | (go_simp; done) | (go_simp; rfl))
              intro gb242 hg w27 hbox hb
              replace HO198 := Aside0.mk (Kd.N_below (Kd.N_elderB (by (with_reducible repeat (first | apply Kd.N_alloc | apply Kd.N_drewN | apply Kd.N_drew)); exact HO198.out) gb242 (Nat.le_of_eq hg.symm)) hb)
              replace HO204 := Aside0.mk (Kd.R_below (dR_ HO204) hb)
              replace HO207 := Aside0.mk (Kd.R_below (dR_ HO207) hb)
              replace HO210 := Aside0.mk (Kd.R_below (dR_ HO210) hb)
              replace HO213 := Aside0.mk (Kd.R_below (dR_ HO213) hb)
              have BK242 := Aside0.mk (hbox)
              have GW242 := Aside0.mk ((dS_ hg (dL1_ HB GE218) : w.heap.size ≤ gb242))
              have GE242 := Aside0.mk ((dS_ hg (dL1_ HB GE218) : w.heap.size ≤ gb242))
              replace HB := Aside0.mk (below_step (dL1_ HB GE218) hb)
              have NB218_242 := Aside0.mk ((by rw [hg]; exact Nat.ne_of_lt (blk_lt (dB_ BK218)) : gb218 ≠ gb242))
              have NB242_218 := Aside0.mk ((by rw [hg]; exact Nat.ne_of_gt (blk_lt (dB_ BK218)) : gb242 ≠ gb218))
              replace BK218 := Aside0.mk (blk_below (g := gb218) (o := .cells #[.int .i64 t199, .int .i64 t200, .int .i64 t201, .slice Ao21 t202.length co21, .slice Ao22 t205.length co22, .slice Ao23 t208.length co23, .slice Ao24 t211.length co24, .int .i64 t214, .int .i64 t215, .bool true] 25 (0, 0)) (dB_ BK218) hb)
              clear hb hbox hg
              refine hK.out _ _ ⟨(blk_cell BK218.out 0).trans rfl, (blk_cell BK218.out 1).trans rfl, (blk_cell BK218.out 2).trans rfl, (blk_cell BK218.out 3).trans rfl, (blk_cell BK218.out 4).trans rfl, (blk_cell BK218.out 5).trans rfl, (blk_cell BK218.out 6).trans rfl, (blk_cell BK218.out 7).trans rfl, (blk_cell BK218.out 8).trans rfl, (blk_cell BK218.out 9).trans rfl⟩ (fun hHeld => ?_)
              clear hK K
              refine norm_ (a' := ?_) ?_ ?_
              rotate_left
              ·show Act.put _ (some 3) _ = _
               simp only [Act.put, sI_, s0_, sS_, i64_w, i32_w]
               rfl
              refine one_ (i := 0) (N := some 12) #[true, true, false, false, false, false, false, true, false, false, false] rfl rfl (one_of HT_.out (by kernel_rfl)) (by decide) (fun K hK => ?_)
              refine goes_ Try.func32 (by kernel_rfl) rfl #[] (by rfl) rfl rfl tA_ ?_
              with_reducible refine (hinterlandlaw10_works.calls  t219 _ A3.out).mono ?_
              rintro e w28 ⟨v220, rfl, ho0, hb⟩
              refine ⟨_, rfl, ?_⟩
              have HO221 := Aside0.mk (Kd.N_lower (Kd.N_mono (ok' := fun k_ => some k_ ≠ (.slice Ao17 t196.length co17 : Value).ownBlock ∧ some k_ ≠ (.slice Ao21 t202.length co21 : Value).ownBlock ∧ some k_ ≠ (.slice Ao22 t205.length co22 : Value).ownBlock ∧ some k_ ≠ (.slice Ao23 t208.length co23 : Value).ownBlock ∧ some k_ ≠ (.slice Ao24 t211.length co24 : Value).ownBlock ∧ k_ ≠ gb218 ∧ k_ ≠ gb242) ho0 (fun k_ hk_ => ⟨(Kd.fresh' (Kd.N_lt (by (with_reducible repeat (first | apply Kd.N_alloc | apply Kd.N_drewN | apply Kd.N_drew)); exact HO198.out)) k_ hk_), (Kd.fresh' (Kd.R_lt (dR_ HO204)) k_ hk_), (Kd.fresh' (Kd.R_lt (dR_ HO207)) k_ hk_), (Kd.fresh' (Kd.R_lt (dR_ HO210)) k_ hk_), (Kd.fresh' (Kd.R_lt (dR_ HO213)) k_ hk_), (Kd.freshB (g := gb218) (o := .cells #[.int .i64 t199, .int .i64 t200, .int .i64 t201, .slice Ao21 t202.length co21, .slice Ao22 t205.length co22, .slice Ao23 t208.length co23, .slice Ao24 t211.length co24, .int .i64 t214, .int .i64 t215, .bool true] 25 (0, 0)) (dB_ BK218) k_ hk_), (Kd.freshB (g := gb242) (o := .cells #[.int .i64 0, .int .i64 0, .int .i64 0, .slice none 0 0, .slice none 0 0, .slice none 0 0, .slice none 0 0, .int .i64 0, .int .i64 0, .bool false] 25 (0, 0)) (dB_ BK242) k_ hk_)⟩)) (below_size (dL2_ HB GE218 GE242)))
              replace HO198 := Aside0.mk (Kd.N_elder' (by (with_reducible repeat (first | apply Kd.N_alloc | apply Kd.N_drewN | apply Kd.N_drew)); exact HO198.out) (Kd.N_base ho0) hb)
              replace HO204 := Aside0.mk (Kd.R_below (dR_ HO204) hb)
              replace HO207 := Aside0.mk (Kd.R_below (dR_ HO207) hb)
              replace HO210 := Aside0.mk (Kd.R_below (dR_ HO210) hb)
              replace HO213 := Aside0.mk (Kd.R_below (dR_ HO213) hb)
              replace BK218 := Aside0.mk (blk_below (g := gb218) (o := .cells #[.int .i64 t199, .int .i64 t200, .int .i64 t201, .slice Ao21 t202.length co21, .slice Ao22 t205.length co22, .slice Ao23 t208.length co23, .slice Ao24 t211.length co24, .int .i64 t214, .int .i64 t215, .bool true] 25 (0, 0)) (dB_ BK218) hb)
              replace BK242 := Aside0.mk (blk_below (g := gb242) (o := .cells #[.int .i64 0, .int .i64 0, .int .i64 0, .slice none 0 0, .slice none 0 0, .slice none 0 0, .slice none 0 0, .int .i64 0, .int .i64 0, .bool false] 25 (0, 0)) (dB_ BK242) hb)
              replace HB := Aside0.mk (below_step (dL2_ HB GE218 GE242) hb)
              (try clear hb)
              (try clear hb2)
              (try clear hk)
              (try clear hi)
              (try clear ho0)
              obtain ⟨Ao29, co29, eo29⟩ := Kd.N_slice HO221.out
              (first | subst eo29 | (injection eo29 with f1_ f2_ f3_; have f4_ := f1_.symm; have f5_ := f3_.symm; clear f1_ f2_ f3_; subst f4_; subst f5_))
              refine hK.out _ _ ⟨(blk_cell BK218.out 0).trans rfl, (blk_cell BK218.out 1).trans rfl, (blk_cell BK218.out 2).trans rfl, (blk_cell BK218.out 3).trans rfl, (blk_cell BK218.out 4).trans rfl, (blk_cell BK218.out 5).trans rfl, (blk_cell BK218.out 6).trans rfl, (blk_cell BK218.out 7).trans rfl, (blk_cell BK218.out 8).trans rfl, (blk_cell BK218.out 9).trans rfl⟩ (fun hHeld => ?_)
              clear hK K
              refine norm_ (a' := ?_) ?_ ?_
              rotate_left
              ·show Act.put _ (some 12) _ = _
               simp only [Act.put, sI_, s0_, sS_, i64_w, i32_w]
               rfl
              refine one_ (i := 2) (N := some 14) #[true, true, true, false, false, false, false, true, false, false, false] rfl rfl (one_of HT_.out (by kernel_rfl)) (by decide) (fun K hK => ?_)
              refine goes_ Try.func20 (by kernel_rfl) rfl #[.slice Ao29 t219.length co29, .agg #[.int .i64 t199, .int .i64 t200, .int .i64 t201, .slice Ao21 t202.length co21, .slice Ao22 t205.length co22, .slice Ao23 t208.length co23, .slice Ao24 t211.length co24, .int .i64 t214, .int .i64 t215, .bool true], .int .i64 0, .int .i64 3] (by rfl) rfl rfl tA_ ?_
              with_reducible refine (plant_Bring.calls k _ _ t219 t199 t200 t201 _ _ t202 _ _ t205 _ _ t208 _ _ t211 t214 t215 true 0 3 t222 t223 t224 t225 t228 t231 t234 t237 t238 t239 t240 t241 _ ?side1 ?side2 ?side3 ?side4 ?side5 ?side6 ?side7 ?side8 ?side9 ?side10 A4.out).mono ?_
              (case side1 => repeat (first | exact (Kd.N_reads' HO221.out).2.2 | (with_reducible refine Kd.C_alloc ?_ _) | (with_reducible refine Kd.C_drewN ?_ _) | (with_reducible refine Kd.C_drew ?_)))
              (case side2 => exact (Kd.N_reads' HO221.out).2.1)
              (case side3 => repeat (first | exact (Kd.R_reads' HO204.out).2.2 | (with_reducible refine Kd.C_alloc ?_ _) | (with_reducible refine Kd.C_drewN ?_ _) | (with_reducible refine Kd.C_drew ?_)))
              (case side4 => exact (Kd.R_reads' HO204.out).2.1)
              (case side5 => repeat (first | exact (Kd.R_reads' HO207.out).2.2 | (with_reducible refine Kd.C_alloc ?_ _) | (with_reducible refine Kd.C_drewN ?_ _) | (with_reducible refine Kd.C_drew ?_)))
              (case side6 => exact (Kd.R_reads' HO207.out).2.1)
              (case side7 => repeat (first | exact (Kd.R_reads' HO210.out).2.2 | (with_reducible refine Kd.C_alloc ?_ _) | (with_reducible refine Kd.C_drewN ?_ _) | (with_reducible refine Kd.C_drew ?_)))
              (case side8 => exact (Kd.R_reads' HO210.out).2.1)
              (case side9 => repeat (first | exact (Kd.R_reads' HO213.out).2.2 | (with_reducible refine Kd.C_alloc ?_ _) | (with_reducible refine Kd.C_drewN ?_ _) | (with_reducible refine Kd.C_drew ?_)))
              (case side10 => exact (Kd.R_reads' HO213.out).2.1)
              rintro e w30 ⟨v226, v229, v232, v235, rfl, ho0, ho1, ho2, ho3, hb⟩
              refine ⟨_, rfl, ?_⟩
              replace HO198 := Aside0.mk (Kd.N_mono (Kd.N_told (Kd.N_told (Kd.N_told (Kd.N_told (Kd.N_old (by (with_reducible repeat (first | apply Kd.N_alloc | apply Kd.N_drewN | apply Kd.N_drew)); exact HO198.out) hb) (Kd.R_base ho0)) (Kd.R_base ho1)) (Kd.R_base ho2)) (Kd.R_base ho3)) (fun _ h_ => h_.1))
              replace HO221 := Aside0.mk (Kd.N_mono (Kd.N_told (Kd.N_told (Kd.N_told (Kd.N_told (Kd.N_old (by (with_reducible repeat (first | apply Kd.N_alloc | apply Kd.N_drewN | apply Kd.N_drew)); exact HO221.out) hb) (Kd.R_base ho0)) (Kd.R_base ho1)) (Kd.R_base ho2)) (Kd.R_base ho3)) (fun _ h_ => h_.1))
              have HO227 := Aside0.mk (Kd.R_lower (Kd.R_new' (Kd.R_new' (Kd.R_new' (Kd.R_new' ho0 (Kd.R_lt (dR_ HO204))) (Kd.R_lt (dR_ HO207))) (Kd.R_lt (dR_ HO210))) (Kd.R_lt (dR_ HO213))) (below_size (dL2_ HB GE218 GE242)))
              have HO230 := Aside0.mk (Kd.R_lower (Kd.R_new' (Kd.R_new' (Kd.R_new' (Kd.R_new' ho1 (Kd.R_lt (dR_ HO204))) (Kd.R_lt (dR_ HO207))) (Kd.R_lt (dR_ HO210))) (Kd.R_lt (dR_ HO213))) (below_size (dL2_ HB GE218 GE242)))
              have HO233 := Aside0.mk (Kd.R_lower (Kd.R_new' (Kd.R_new' (Kd.R_new' (Kd.R_new' ho2 (Kd.R_lt (dR_ HO204))) (Kd.R_lt (dR_ HO207))) (Kd.R_lt (dR_ HO210))) (Kd.R_lt (dR_ HO213))) (below_size (dL2_ HB GE218 GE242)))
              have HO236 := Aside0.mk (Kd.R_lower (Kd.R_new' (Kd.R_new' (Kd.R_new' (Kd.R_new' ho3 (Kd.R_lt (dR_ HO204))) (Kd.R_lt (dR_ HO207))) (Kd.R_lt (dR_ HO210))) (Kd.R_lt (dR_ HO213))) (below_size (dL2_ HB GE218 GE242)))
              replace HO204 := Aside0.mk (Kd.R_mono (Kd.R_told (Kd.R_told (Kd.R_told (Kd.R_told (Kd.R_old (dR_ HO204) hb) (Kd.R_base ho0)) (Kd.R_base ho1)) (Kd.R_base ho2)) (Kd.R_base ho3)) (fun _ h_ => h_.1))
              replace HO207 := Aside0.mk (Kd.R_mono (Kd.R_told (Kd.R_told (Kd.R_told (Kd.R_told (Kd.R_old (dR_ HO207) hb) (Kd.R_base ho0)) (Kd.R_base ho1)) (Kd.R_base ho2)) (Kd.R_base ho3)) (fun _ h_ => h_.1))
              replace HO210 := Aside0.mk (Kd.R_mono (Kd.R_told (Kd.R_told (Kd.R_told (Kd.R_told (Kd.R_old (dR_ HO210) hb) (Kd.R_base ho0)) (Kd.R_base ho1)) (Kd.R_base ho2)) (Kd.R_base ho3)) (fun _ h_ => h_.1))
              replace HO213 := Aside0.mk (Kd.R_mono (Kd.R_told (Kd.R_told (Kd.R_told (Kd.R_told (Kd.R_old (dR_ HO213) hb) (Kd.R_base ho0)) (Kd.R_base ho1)) (Kd.R_base ho2)) (Kd.R_base ho3)) (fun _ h_ => h_.1))
              replace BK218 := Aside0.mk (blk_below (g := gb218) (o := .cells #[.int .i64 t199, .int .i64 t200, .int .i64 t201, .slice Ao21 t202.length co21, .slice Ao22 t205.length co22, .slice Ao23 t208.length co23, .slice Ao24 t211.length co24, .int .i64 t214, .int .i64 t215, .bool true] 25 (0, 0)) (dB_ BK218) hb)
              replace BK242 := Aside0.mk (blk_below (g := gb242) (o := .cells #[.int .i64 0, .int .i64 0, .int .i64 0, .slice none 0 0, .slice none 0 0, .slice none 0 0, .slice none 0 0, .int .i64 0, .int .i64 0, .bool false] 25 (0, 0)) (dB_ BK242) hb)
              replace HB := Aside0.mk (below_step (dL2_ HB GE218 GE242) hb)
              (try clear hb)
              (try clear hb2)
              (try clear hk)
              (try clear hi)
              (try clear ho0)
              (try clear ho1)
              (try clear ho2)
              (try clear ho3)
              refine hK.out _ _ ⟨(blk_cell BK218.out 0).trans rfl, (blk_cell BK218.out 1).trans rfl, (blk_cell BK218.out 2).trans rfl, (blk_cell BK218.out 3).trans rfl, (blk_cell BK218.out 4).trans rfl, (blk_cell BK218.out 5).trans rfl, (blk_cell BK218.out 6).trans rfl, (blk_cell BK218.out 7).trans rfl, (blk_cell BK218.out 8).trans rfl, (blk_cell BK218.out 9).trans rfl⟩ (fun hHeld => ?_)
              clear hK K
              refine norm_ (a' := ?_) ?_ ?_
              rotate_left
              ·show Act.put _ (some 14) _ = _
               simp only [Act.put, sI_, s0_, sS_, i64_w, i32_w]
               rfl
              refine pure_ (i := 3) (N := some 11) (v := ?_) (a' := ?_) #[true, true, true, true, false, false, false, true, false, false, false] rfl rfl (any_of HT_.out (by kernel_rfl)) (fun _ _ _ h => h) (Or.inl ⟨by rfl, ?_⟩) ?_ ?_; rotate_left; (intro w'; go_simp; with_reducible rfl); rotate_left; (simp only [Act.put, sI_, s0_, sS_, i64_w, i32_w]; rfl)
              refine pure_ (i := 4) (N := some 15) (v := ?_) (a' := ?_) #[true, true, true, true, true, false, false, true, false, false, false] rfl rfl (any_of HT_.out (by kernel_rfl)) (fun _ _ _ h => h) (Or.inl ⟨by rfl, ?_⟩) ?_ ?_; rotate_left; (intro w'; go_simp; with_reducible rfl); rotate_left; (simp only [Act.put, sI_, s0_, sS_, i64_w, i32_w]; rfl)
              refine pure_ (i := 5) (N := some 16) (v := ?_) (a' := ?_) #[true, true, true, true, true, true, false, true, false, false, false] rfl rfl (any_of HT_.out (by kernel_rfl)) (fun _ _ _ h => h) (Or.inl ⟨by rfl, ?_⟩) ?_ ?_; rotate_left; (intro w'; go_simp; with_reducible rfl); rotate_left; (simp only [Act.put, sI_, s0_, sS_, i64_w, i32_w]; rfl)
              refine pure_ (i := 6) (N := some 17) (v := ?_) (a' := ?_) (bA 8 11) rfl rfl (any_of HT_.out (by kernel_rfl)) (fun _ _ _ h => h) (Or.inl ⟨by rfl, ?_⟩) ?_ ?_; rotate_left; (intro w'; go_simp; with_reducible rfl); rotate_left; (simp only [Act.put, sI_, s0_, sS_, i64_w, i32_w]; rfl)
              exact norm_ (by simp only [putAll, Act.put, sI_, s0_, sS_]) (hCont (.slice Ao29 t219.length co29, v226, v229, v232, v235, gb242) _ ⟨hHeld, (by (with_reducible repeat (first | apply Kd.N_alloc | apply Kd.N_drewN | apply Kd.N_drew)); exact Kd.N_mono HO198.out (fun _ hk => ⟨hk.1.1.1.1.1.1.1, ⟨hk.1.1.1.1.1.1.2.1, ⟨hk.1.1.1.1.1.1.2.2.1, ⟨hk.1.1.1.1.1.1.2.2.2.1, ⟨hk.1.1.1.1.2, ⟨hk.1.1.1.2, ⟨hk.1.1.2, ⟨hk.1.2, ⟨hk.2, ⟨hk.1.1.1.1.1.1.2.2.2.2, hk.1.1.1.1.1.2⟩⟩⟩⟩⟩⟩⟩⟩⟩⟩)), (by (with_reducible repeat (first | apply Kd.R_alloc | apply Kd.R_drewN | apply Kd.R_drew)); exact Kd.R_mono HO204.out (fun _ hk => ⟨hk.1.1.1.1.1, ⟨hk.1.1.1.1.2.1, ⟨hk.1.1.1.1.2.2, ⟨hk.1.1.1.2, ⟨hk.1.1.2, ⟨hk.1.2, hk.2⟩⟩⟩⟩⟩⟩)), (by (with_reducible repeat (first | apply Kd.R_alloc | apply Kd.R_drewN | apply Kd.R_drew)); exact Kd.R_mono HO207.out (fun _ hk => ⟨hk.1.1.1.1.1, ⟨hk.1.1.1.1.2.1, ⟨hk.1.1.1.1.2.2, ⟨hk.1.1.1.2, ⟨hk.1.1.2, ⟨hk.1.2, hk.2⟩⟩⟩⟩⟩⟩)), (by (with_reducible repeat (first | apply Kd.R_alloc | apply Kd.R_drewN | apply Kd.R_drew)); exact Kd.R_mono HO210.out (fun _ hk => ⟨hk.1.1.1.1.1, ⟨hk.1.1.1.1.2.1, ⟨hk.1.1.1.1.2.2, ⟨hk.1.1.1.2, ⟨hk.1.1.2, ⟨hk.1.2, hk.2⟩⟩⟩⟩⟩⟩)), (by (with_reducible repeat (first | apply Kd.R_alloc | apply Kd.R_drewN | apply Kd.R_drew)); exact Kd.R_mono HO213.out (fun _ hk => ⟨hk.1.1.1.1.1, ⟨hk.1.1.1.1.2.1, ⟨hk.1.1.1.1.2.2, ⟨hk.1.1.1.2, ⟨hk.1.1.2, ⟨hk.1.2, hk.2⟩⟩⟩⟩⟩⟩)), (by (with_reducible repeat (first | apply Kd.N_alloc | apply Kd.N_drewN | apply Kd.N_drew)); exact Kd.N_mono HO221.out (fun _ hk => ⟨hk.1.1.1.1.1, ⟨hk.1.1.1.1.2.1, ⟨hk.1.1.1.1.2.2.1, ⟨hk.1.1.1.1.2.2.2.1, ⟨hk.1.1.1.1.2.2.2.2.1, ⟨hk.1.1.1.2, ⟨hk.1.1.2, ⟨hk.1.2, ⟨hk.2, ⟨hk.1.1.1.1.2.2.2.2.2.1, hk.1.1.1.1.2.2.2.2.2.2⟩⟩⟩⟩⟩⟩⟩⟩⟩⟩)), (by (with_reducible repeat (first | apply Kd.R_alloc | apply Kd.R_drewN | apply Kd.R_drew)); exact Kd.R_mono HO227.out (fun _ hk => ⟨hk.1.1.1.2, ⟨hk.1.1.2, ⟨hk.1.2, ⟨hk.2, ⟨hk.1.1.1.1.1, ⟨hk.1.1.1.1.2.1, hk.1.1.1.1.2.2⟩⟩⟩⟩⟩⟩)), (by (with_reducible repeat (first | apply Kd.R_alloc | apply Kd.R_drewN | apply Kd.R_drew)); exact Kd.R_mono HO230.out (fun _ hk => ⟨hk.1.1.1.2, ⟨hk.1.1.2, ⟨hk.1.2, ⟨hk.2, ⟨hk.1.1.1.1.1, ⟨hk.1.1.1.1.2.1, hk.1.1.1.1.2.2⟩⟩⟩⟩⟩⟩)), (by (with_reducible repeat (first | apply Kd.R_alloc | apply Kd.R_drewN | apply Kd.R_drew)); exact Kd.R_mono HO233.out (fun _ hk => ⟨hk.1.1.1.2, ⟨hk.1.1.2, ⟨hk.1.2, ⟨hk.2, ⟨hk.1.1.1.1.1, ⟨hk.1.1.1.1.2.1, hk.1.1.1.1.2.2⟩⟩⟩⟩⟩⟩)), (by (with_reducible repeat (first | apply Kd.R_alloc | apply Kd.R_drewN | apply Kd.R_drew)); exact Kd.R_mono HO236.out (fun _ hk => ⟨hk.1.1.1.2, ⟨hk.1.1.2, ⟨hk.1.2, ⟨hk.2, ⟨hk.1.1.1.1.1, ⟨hk.1.1.1.1.2.1, hk.1.1.1.1.2.2⟩⟩⟩⟩⟩⟩)), (dB_ BK218), (dB_ BK242), GW242.out, GE242.out, NB218_242.out, NB242_218.out, (dL2_ HB GE218 GE242)⟩)
            rintro ⟨v220, v226, v229, v232, v235, gb242⟩ w31 ⟨hS_, h0_, h1_, h2_, h3_, h4_, h5_, h6_, h7_, h8_, h9_, h10_, h11_, h12_, h13_, h14_, h15_, h16_⟩
            have n0_ : Aside0 (Kd.N k39 39 w31 w.heap.size (fun k_ => some k_ ≠ (.slice Ao21 t202.length co21 : Value).ownBlock ∧ some k_ ≠ (.slice Ao22 t205.length co22 : Value).ownBlock ∧ some k_ ≠ (.slice Ao23 t208.length co23 : Value).ownBlock ∧ some k_ ≠ (.slice Ao24 t211.length co24 : Value).ownBlock ∧ some k_ ≠ (v220 : Value).ownBlock ∧ some k_ ≠ (v226 : Value).ownBlock ∧ some k_ ≠ (v229 : Value).ownBlock ∧ some k_ ≠ (v232 : Value).ownBlock ∧ some k_ ≠ (v235 : Value).ownBlock ∧ k_ ≠ gb218 ∧ k_ ≠ gb242) (.slice Ao17 t196.length co17) t196) := ⟨h0_⟩
            have n1_ : Aside0 (Kd.R (Kd.int .i64) 3 w31 w.heap.size (fun k_ => some k_ ≠ (.slice Ao22 t205.length co22 : Value).ownBlock ∧ some k_ ≠ (.slice Ao23 t208.length co23 : Value).ownBlock ∧ some k_ ≠ (.slice Ao24 t211.length co24 : Value).ownBlock ∧ some k_ ≠ (v226 : Value).ownBlock ∧ some k_ ≠ (v229 : Value).ownBlock ∧ some k_ ≠ (v232 : Value).ownBlock ∧ some k_ ≠ (v235 : Value).ownBlock) (.slice Ao21 t202.length co21) t202) := ⟨h1_⟩
            have n2_ : Aside0 (Kd.R (Kd.int .i64) 3 w31 w.heap.size (fun k_ => some k_ ≠ (.slice Ao21 t202.length co21 : Value).ownBlock ∧ some k_ ≠ (.slice Ao23 t208.length co23 : Value).ownBlock ∧ some k_ ≠ (.slice Ao24 t211.length co24 : Value).ownBlock ∧ some k_ ≠ (v226 : Value).ownBlock ∧ some k_ ≠ (v229 : Value).ownBlock ∧ some k_ ≠ (v232 : Value).ownBlock ∧ some k_ ≠ (v235 : Value).ownBlock) (.slice Ao22 t205.length co22) t205) := ⟨h2_⟩
            have n3_ : Aside0 (Kd.R (Kd.int .i64) 3 w31 w.heap.size (fun k_ => some k_ ≠ (.slice Ao21 t202.length co21 : Value).ownBlock ∧ some k_ ≠ (.slice Ao22 t205.length co22 : Value).ownBlock ∧ some k_ ≠ (.slice Ao24 t211.length co24 : Value).ownBlock ∧ some k_ ≠ (v226 : Value).ownBlock ∧ some k_ ≠ (v229 : Value).ownBlock ∧ some k_ ≠ (v232 : Value).ownBlock ∧ some k_ ≠ (v235 : Value).ownBlock) (.slice Ao23 t208.length co23) t208) := ⟨h3_⟩
            have n4_ : Aside0 (Kd.R (Kd.int .i64) 3 w31 w.heap.size (fun k_ => some k_ ≠ (.slice Ao21 t202.length co21 : Value).ownBlock ∧ some k_ ≠ (.slice Ao22 t205.length co22 : Value).ownBlock ∧ some k_ ≠ (.slice Ao23 t208.length co23 : Value).ownBlock ∧ some k_ ≠ (v226 : Value).ownBlock ∧ some k_ ≠ (v229 : Value).ownBlock ∧ some k_ ≠ (v232 : Value).ownBlock ∧ some k_ ≠ (v235 : Value).ownBlock) (.slice Ao24 t211.length co24) t211) := ⟨h4_⟩
            have n5_ : Aside0 (Kd.N k39 39 w31 w.heap.size (fun k_ => some k_ ≠ (.slice Ao17 t196.length co17 : Value).ownBlock ∧ some k_ ≠ (.slice Ao21 t202.length co21 : Value).ownBlock ∧ some k_ ≠ (.slice Ao22 t205.length co22 : Value).ownBlock ∧ some k_ ≠ (.slice Ao23 t208.length co23 : Value).ownBlock ∧ some k_ ≠ (.slice Ao24 t211.length co24 : Value).ownBlock ∧ some k_ ≠ (v226 : Value).ownBlock ∧ some k_ ≠ (v229 : Value).ownBlock ∧ some k_ ≠ (v232 : Value).ownBlock ∧ some k_ ≠ (v235 : Value).ownBlock ∧ k_ ≠ gb218 ∧ k_ ≠ gb242) v220 t219) := ⟨h5_⟩
            have n6_ : Aside0 (Kd.R (Kd.int .i64) 3 w31 w.heap.size (fun k_ => some k_ ≠ (.slice Ao21 t202.length co21 : Value).ownBlock ∧ some k_ ≠ (.slice Ao22 t205.length co22 : Value).ownBlock ∧ some k_ ≠ (.slice Ao23 t208.length co23 : Value).ownBlock ∧ some k_ ≠ (.slice Ao24 t211.length co24 : Value).ownBlock ∧ some k_ ≠ (v229 : Value).ownBlock ∧ some k_ ≠ (v232 : Value).ownBlock ∧ some k_ ≠ (v235 : Value).ownBlock) v226 t225) := ⟨h6_⟩
            have n7_ : Aside0 (Kd.R (Kd.int .i64) 3 w31 w.heap.size (fun k_ => some k_ ≠ (.slice Ao21 t202.length co21 : Value).ownBlock ∧ some k_ ≠ (.slice Ao22 t205.length co22 : Value).ownBlock ∧ some k_ ≠ (.slice Ao23 t208.length co23 : Value).ownBlock ∧ some k_ ≠ (.slice Ao24 t211.length co24 : Value).ownBlock ∧ some k_ ≠ (v226 : Value).ownBlock ∧ some k_ ≠ (v232 : Value).ownBlock ∧ some k_ ≠ (v235 : Value).ownBlock) v229 t228) := ⟨h7_⟩
            have n8_ : Aside0 (Kd.R (Kd.int .i64) 3 w31 w.heap.size (fun k_ => some k_ ≠ (.slice Ao21 t202.length co21 : Value).ownBlock ∧ some k_ ≠ (.slice Ao22 t205.length co22 : Value).ownBlock ∧ some k_ ≠ (.slice Ao23 t208.length co23 : Value).ownBlock ∧ some k_ ≠ (.slice Ao24 t211.length co24 : Value).ownBlock ∧ some k_ ≠ (v226 : Value).ownBlock ∧ some k_ ≠ (v229 : Value).ownBlock ∧ some k_ ≠ (v235 : Value).ownBlock) v232 t231) := ⟨h8_⟩
            have n9_ : Aside0 (Kd.R (Kd.int .i64) 3 w31 w.heap.size (fun k_ => some k_ ≠ (.slice Ao21 t202.length co21 : Value).ownBlock ∧ some k_ ≠ (.slice Ao22 t205.length co22 : Value).ownBlock ∧ some k_ ≠ (.slice Ao23 t208.length co23 : Value).ownBlock ∧ some k_ ≠ (.slice Ao24 t211.length co24 : Value).ownBlock ∧ some k_ ≠ (v226 : Value).ownBlock ∧ some k_ ≠ (v229 : Value).ownBlock ∧ some k_ ≠ (v232 : Value).ownBlock) v235 t234) := ⟨h9_⟩
            have n10_ : Aside0 (w31.heap[gb218]? = some (.cells #[.int .i64 t199, .int .i64 t200, .int .i64 t201, .slice Ao21 t202.length co21, .slice Ao22 t205.length co22, .slice Ao23 t208.length co23, .slice Ao24 t211.length co24, .int .i64 t214, .int .i64 t215, .bool true] 25 (0, 0))) := ⟨h10_⟩
            have n11_ : Aside0 (w31.heap[gb242]? = some (.cells #[.int .i64 0, .int .i64 0, .int .i64 0, .slice none 0 0, .slice none 0 0, .slice none 0 0, .slice none 0 0, .int .i64 0, .int .i64 0, .bool false] 25 (0, 0))) := ⟨h11_⟩
            have n12_ : Aside0 (w.heap.size ≤ gb242) := ⟨h12_⟩
            have n13_ : Aside0 (w.heap.size ≤ gb242) := ⟨h13_⟩
            have n14_ : Aside0 (gb218 ≠ gb242) := ⟨h14_⟩
            have n15_ : Aside0 (gb242 ≠ gb218) := ⟨h15_⟩
            have n16_ : Aside0 (Below w.heap.size w w31) := ⟨h16_⟩
            clear HO198
            clear HO204
            clear HO207
            clear HO210
            clear HO213
            clear BK218
            clear HB
            clear h0_ h1_ h2_ h3_ h4_ h5_ h6_ h7_ h8_ h9_ h10_ h11_ h12_ h13_ h14_ h15_ h16_
            have HO198 := n0_
            have HO204 := n1_
            have HO207 := n2_
            have HO210 := n3_
            have HO213 := n4_
            have HO221 := n5_
            have HO227 := n6_
            have HO230 := n7_
            have HO233 := n8_
            have HO236 := n9_
            have BK218 := n10_
            have BK242 := n11_
            have GW242 := n12_
            have GE242 := n13_
            have NB218_242 := n14_
            have NB242_218 := n15_
            have HB := n16_
            clear n0_ n1_ n2_ n3_ n4_ n5_ n6_ n7_ n8_ n9_ n10_ n11_ n12_ n13_ n14_ n15_ n16_
            have hHeld : w31.cell? ⟨gb218, 0, none⟩ = some (.int .i64 t199) ∧ w31.cell? ⟨gb218, 1, none⟩ = some (.int .i64 t200) ∧ w31.cell? ⟨gb218, 2, none⟩ = some (.int .i64 t201) ∧ w31.cell? ⟨gb218, 3, none⟩ = some (.slice Ao21 t202.length co21) ∧ w31.cell? ⟨gb218, 4, none⟩ = some (.slice Ao22 t205.length co22) ∧ w31.cell? ⟨gb218, 5, none⟩ = some (.slice Ao23 t208.length co23) ∧ w31.cell? ⟨gb218, 6, none⟩ = some (.slice Ao24 t211.length co24) ∧ w31.cell? ⟨gb218, 7, none⟩ = some (.int .i64 t214) ∧ w31.cell? ⟨gb218, 8, none⟩ = some (.int .i64 t215) ∧ w31.cell? ⟨gb218, 9, none⟩ = some (.bool true) := hS_
            obtain ⟨Ao35, co35, eo35⟩ := Kd.R_slice HO227.out
            (first | subst eo35 | (injection eo35 with f1_ f2_ f3_; have f4_ := f1_.symm; have f5_ := f3_.symm; clear f1_ f2_ f3_; subst f4_; subst f5_))
            obtain ⟨Ao37, co37, eo37⟩ := Kd.R_slice HO230.out
            (first | subst eo37 | (injection eo37 with f1_ f2_ f3_; have f4_ := f1_.symm; have f5_ := f3_.symm; clear f1_ f2_ f3_; subst f4_; subst f5_))
            obtain ⟨Ao39, co39, eo39⟩ := Kd.R_slice HO233.out
            (first | subst eo39 | (injection eo39 with f1_ f2_ f3_; have f4_ := f1_.symm; have f5_ := f3_.symm; clear f1_ f2_ f3_; subst f4_; subst f5_))
            obtain ⟨Ao41, co41, eo41⟩ := Kd.R_slice HO236.out
            (first | subst eo41 | (injection eo41 with f1_ f2_ f3_; have f4_ := f1_.symm; have f5_ := f3_.symm; clear f1_ f2_ f3_; subst f4_; subst f5_))
            refine norm_ (a' := ?_) ?_ ?_; rotate_left; (simp only [putAll, Act.put, sI_, s0_, sS_]; rfl)
            refine one_ (i := 8) (N := none) (bA 9 11) rfl rfl (one_of HT_.out (by kernel_rfl)) (by decide) (fun K hK => ?_)
            have hs32 : w31.cell? ⟨gb242, 0, none⟩ = some (.int .i64 0) := (blk_cell BK242.out 0).trans rfl
            have hfs32 := blk_frozen BK242.out 0
            have hns32_0 := NB218_242.out
            have hms32_0 := NB242_218.out
            have hs33 : w31.cell? ⟨gb242, 1, none⟩ = some (.int .i64 0) := (blk_cell BK242.out 1).trans rfl
            have hfs33 := blk_frozen BK242.out 1
            have hns33_0 := NB218_242.out
            have hms33_0 := NB242_218.out
            have hs34 : w31.cell? ⟨gb242, 2, none⟩ = some (.int .i64 0) := (blk_cell BK242.out 2).trans rfl
            have hfs34 := blk_frozen BK242.out 2
            have hns34_0 := NB218_242.out
            have hms34_0 := NB242_218.out
            have hs36 : w31.cell? ⟨gb242, 3, none⟩ = some (.slice none 0 0) := (blk_cell BK242.out 3).trans rfl
            have hfs36 := blk_frozen BK242.out 3
            have hns36_0 := NB218_242.out
            have hms36_0 := NB242_218.out
            have hs38 : w31.cell? ⟨gb242, 4, none⟩ = some (.slice none 0 0) := (blk_cell BK242.out 4).trans rfl
            have hfs38 := blk_frozen BK242.out 4
            have hns38_0 := NB218_242.out
            have hms38_0 := NB242_218.out
            have hs40 : w31.cell? ⟨gb242, 5, none⟩ = some (.slice none 0 0) := (blk_cell BK242.out 5).trans rfl
            have hfs40 := blk_frozen BK242.out 5
            have hns40_0 := NB218_242.out
            have hms40_0 := NB242_218.out
            have hs42 : w31.cell? ⟨gb242, 6, none⟩ = some (.slice none 0 0) := (blk_cell BK242.out 6).trans rfl
            have hfs42 := blk_frozen BK242.out 6
            have hns42_0 := NB218_242.out
            have hms42_0 := NB242_218.out
            have hs43 : w31.cell? ⟨gb242, 7, none⟩ = some (.int .i64 0) := (blk_cell BK242.out 7).trans rfl
            have hfs43 := blk_frozen BK242.out 7
            have hns43_0 := NB218_242.out
            have hms43_0 := NB242_218.out
            have hs44 : w31.cell? ⟨gb242, 8, none⟩ = some (.int .i64 0) := (blk_cell BK242.out 8).trans rfl
            have hfs44 := blk_frozen BK242.out 8
            have hns44_0 := NB218_242.out
            have hms44_0 := NB242_218.out
            have hs45 : w31.cell? ⟨gb242, 9, none⟩ = some (.bool false) := (blk_cell BK242.out 9).trans rfl
            have hfs45 := blk_frozen BK242.out 9
            have hns45_0 := NB218_242.out
            have hms45_0 := NB242_218.out
            refine skip_ (w1 := ?_) (by rfl) rfl ?_ ?_
            rotate_left
            ·go_simp
             rfl
            refine hK.out _ _ ⟨((cell_far (p := ⟨gb242, _, none⟩) NB218_242.out _).trans (((cell_far (p := ⟨gb242, _, none⟩) NB218_242.out _).trans (((cell_far (p := ⟨gb242, _, none⟩) NB218_242.out _).trans (((cell_far (p := ⟨gb242, _, none⟩) NB218_242.out _).trans (((cell_far (p := ⟨gb242, _, none⟩) NB218_242.out _).trans (((cell_far (p := ⟨gb242, _, none⟩) NB218_242.out _).trans (((cell_far (p := ⟨gb242, _, none⟩) NB218_242.out _).trans (((cell_far (p := ⟨gb242, _, none⟩) NB218_242.out _).trans (((cell_far (p := ⟨gb242, _, none⟩) NB218_242.out _).trans (((cell_far (p := ⟨gb242, _, none⟩) NB218_242.out _).trans (hHeld.1)))))))))))))))))))), ((cell_far (p := ⟨gb242, _, none⟩) NB218_242.out _).trans (((cell_far (p := ⟨gb242, _, none⟩) NB218_242.out _).trans (((cell_far (p := ⟨gb242, _, none⟩) NB218_242.out _).trans (((cell_far (p := ⟨gb242, _, none⟩) NB218_242.out _).trans (((cell_far (p := ⟨gb242, _, none⟩) NB218_242.out _).trans (((cell_far (p := ⟨gb242, _, none⟩) NB218_242.out _).trans (((cell_far (p := ⟨gb242, _, none⟩) NB218_242.out _).trans (((cell_far (p := ⟨gb242, _, none⟩) NB218_242.out _).trans (((cell_far (p := ⟨gb242, _, none⟩) NB218_242.out _).trans (((cell_far (p := ⟨gb242, _, none⟩) NB218_242.out _).trans (hHeld.2.1)))))))))))))))))))), ((cell_far (p := ⟨gb242, _, none⟩) NB218_242.out _).trans (((cell_far (p := ⟨gb242, _, none⟩) NB218_242.out _).trans (((cell_far (p := ⟨gb242, _, none⟩) NB218_242.out _).trans (((cell_far (p := ⟨gb242, _, none⟩) NB218_242.out _).trans (((cell_far (p := ⟨gb242, _, none⟩) NB218_242.out _).trans (((cell_far (p := ⟨gb242, _, none⟩) NB218_242.out _).trans (((cell_far (p := ⟨gb242, _, none⟩) NB218_242.out _).trans (((cell_far (p := ⟨gb242, _, none⟩) NB218_242.out _).trans (((cell_far (p := ⟨gb242, _, none⟩) NB218_242.out _).trans (((cell_far (p := ⟨gb242, _, none⟩) NB218_242.out _).trans (hHeld.2.2.1)))))))))))))))))))), ((cell_far (p := ⟨gb242, _, none⟩) NB218_242.out _).trans (((cell_far (p := ⟨gb242, _, none⟩) NB218_242.out _).trans (((cell_far (p := ⟨gb242, _, none⟩) NB218_242.out _).trans (((cell_far (p := ⟨gb242, _, none⟩) NB218_242.out _).trans (((cell_far (p := ⟨gb242, _, none⟩) NB218_242.out _).trans (((cell_far (p := ⟨gb242, _, none⟩) NB218_242.out _).trans (((cell_far (p := ⟨gb242, _, none⟩) NB218_242.out _).trans (((cell_far (p := ⟨gb242, _, none⟩) NB218_242.out _).trans (((cell_far (p := ⟨gb242, _, none⟩) NB218_242.out _).trans (((cell_far (p := ⟨gb242, _, none⟩) NB218_242.out _).trans (hHeld.2.2.2.1)))))))))))))))))))), ((cell_far (p := ⟨gb242, _, none⟩) NB218_242.out _).trans (((cell_far (p := ⟨gb242, _, none⟩) NB218_242.out _).trans (((cell_far (p := ⟨gb242, _, none⟩) NB218_242.out _).trans (((cell_far (p := ⟨gb242, _, none⟩) NB218_242.out _).trans (((cell_far (p := ⟨gb242, _, none⟩) NB218_242.out _).trans (((cell_far (p := ⟨gb242, _, none⟩) NB218_242.out _).trans (((cell_far (p := ⟨gb242, _, none⟩) NB218_242.out _).trans (((cell_far (p := ⟨gb242, _, none⟩) NB218_242.out _).trans (((cell_far (p := ⟨gb242, _, none⟩) NB218_242.out _).trans (((cell_far (p := ⟨gb242, _, none⟩) NB218_242.out _).trans (hHeld.2.2.2.2.1)))))))))))))))))))), ((cell_far (p := ⟨gb242, _, none⟩) NB218_242.out _).trans (((cell_far (p := ⟨gb242, _, none⟩) NB218_242.out _).trans (((cell_far (p := ⟨gb242, _, none⟩) NB218_242.out _).trans (((cell_far (p := ⟨gb242, _, none⟩) NB218_242.out _).trans (((cell_far (p := ⟨gb242, _, none⟩) NB218_242.out _).trans (((cell_far (p := ⟨gb242, _, none⟩) NB218_242.out _).trans (((cell_far (p := ⟨gb242, _, none⟩) NB218_242.out _).trans (((cell_far (p := ⟨gb242, _, none⟩) NB218_242.out _).trans (((cell_far (p := ⟨gb242, _, none⟩) NB218_242.out _).trans (((cell_far (p := ⟨gb242, _, none⟩) NB218_242.out _).trans (hHeld.2.2.2.2.2.1)))))))))))))))))))), ((cell_far (p := ⟨gb242, _, none⟩) NB218_242.out _).trans (((cell_far (p := ⟨gb242, _, none⟩) NB218_242.out _).trans (((cell_far (p := ⟨gb242, _, none⟩) NB218_242.out _).trans (((cell_far (p := ⟨gb242, _, none⟩) NB218_242.out _).trans (((cell_far (p := ⟨gb242, _, none⟩) NB218_242.out _).trans (((cell_far (p := ⟨gb242, _, none⟩) NB218_242.out _).trans (((cell_far (p := ⟨gb242, _, none⟩) NB218_242.out _).trans (((cell_far (p := ⟨gb242, _, none⟩) NB218_242.out _).trans (((cell_far (p := ⟨gb242, _, none⟩) NB218_242.out _).trans (((cell_far (p := ⟨gb242, _, none⟩) NB218_242.out _).trans (hHeld.2.2.2.2.2.2.1)))))))))))))))))))), ((cell_far (p := ⟨gb242, _, none⟩) NB218_242.out _).trans (((cell_far (p := ⟨gb242, _, none⟩) NB218_242.out _).trans (((cell_far (p := ⟨gb242, _, none⟩) NB218_242.out _).trans (((cell_far (p := ⟨gb242, _, none⟩) NB218_242.out _).trans (((cell_far (p := ⟨gb242, _, none⟩) NB218_242.out _).trans (((cell_far (p := ⟨gb242, _, none⟩) NB218_242.out _).trans (((cell_far (p := ⟨gb242, _, none⟩) NB218_242.out _).trans (((cell_far (p := ⟨gb242, _, none⟩) NB218_242.out _).trans (((cell_far (p := ⟨gb242, _, none⟩) NB218_242.out _).trans (((cell_far (p := ⟨gb242, _, none⟩) NB218_242.out _).trans (hHeld.2.2.2.2.2.2.2.1)))))))))))))))))))), ((cell_far (p := ⟨gb242, _, none⟩) NB218_242.out _).trans (((cell_far (p := ⟨gb242, _, none⟩) NB218_242.out _).trans (((cell_far (p := ⟨gb242, _, none⟩) NB218_242.out _).trans (((cell_far (p := ⟨gb242, _, none⟩) NB218_242.out _).trans (((cell_far (p := ⟨gb242, _, none⟩) NB218_242.out _).trans (((cell_far (p := ⟨gb242, _, none⟩) NB218_242.out _).trans (((cell_far (p := ⟨gb242, _, none⟩) NB218_242.out _).trans (((cell_far (p := ⟨gb242, _, none⟩) NB218_242.out _).trans (((cell_far (p := ⟨gb242, _, none⟩) NB218_242.out _).trans (((cell_far (p := ⟨gb242, _, none⟩) NB218_242.out _).trans (hHeld.2.2.2.2.2.2.2.2.1)))))))))))))))))))), ((cell_far (p := ⟨gb242, _, none⟩) NB218_242.out _).trans (((cell_far (p := ⟨gb242, _, none⟩) NB218_242.out _).trans (((cell_far (p := ⟨gb242, _, none⟩) NB218_242.out _).trans (((cell_far (p := ⟨gb242, _, none⟩) NB218_242.out _).trans (((cell_far (p := ⟨gb242, _, none⟩) NB218_242.out _).trans (((cell_far (p := ⟨gb242, _, none⟩) NB218_242.out _).trans (((cell_far (p := ⟨gb242, _, none⟩) NB218_242.out _).trans (((cell_far (p := ⟨gb242, _, none⟩) NB218_242.out _).trans (((cell_far (p := ⟨gb242, _, none⟩) NB218_242.out _).trans (((cell_far (p := ⟨gb242, _, none⟩) NB218_242.out _).trans (hHeld.2.2.2.2.2.2.2.2.2))))))))))))))))))))⟩ (fun hHeld => ?_)
            clear hK K
            refine pure_ (i := 9) (N := some 4) (v := ?_) (a' := ?_) (bA 10 11) rfl rfl (any_of HT_.out (by kernel_rfl)) (fun _ _ _ h => h) (Or.inl ⟨by rfl, ?_⟩) ?_ ?_; rotate_left; (intro w'; go_simp; with_reducible rfl); rotate_left; (simp only [Act.put, sI_, s0_, sS_, i64_w, i32_w]; rfl)
            refine pure_ (i := 10) (N := some 5) (v := ?_) (a' := ?_) (bA 11 11) rfl rfl (any_of HT_.out (by kernel_rfl)) (fun _ _ _ h => h) (Or.inl ⟨by rfl, ?_⟩) ?_ ?_; rotate_left; (intro w'; go_simp; with_reducible rfl); rotate_left; (simp only [Act.put, sI_, s0_, sS_, i64_w, i32_w]; rfl)
            refine done_ (done_of HT_.out (by kernel_rfl)) ?_
            have hnb46 := NB218_242.out
            have hnc46 := NB242_218.out
            obtain ⟨hcz47_0, hcz47_1, hcz47_2, hcz47_3, hcz47_4, hcz47_5, hcz47_6, hcz47_7, hcz47_8, hcz47_9, hfz47_0, hfz47_1, hfz47_2, hfz47_3, hfz47_4, hfz47_5, hfz47_6, hfz47_7, hfz47_8, hfz47_9⟩ := cs10_ BK218.out
            obtain ⟨hcz48_0, hcz48_1, hcz48_2, hcz48_3, hcz48_4, hcz48_5, hcz48_6, hcz48_7, hcz48_8, hcz48_9, hfz48_0, hfz48_1, hfz48_2, hfz48_3, hfz48_4, hfz48_5, hfz48_6, hfz48_7, hfz48_8, hfz48_9⟩ := cs10_ BK242.out
            have p243 : 0 ≤ (0 : Int) := (by omega)
            have q243 : 0 < (t225.length : Int) := of_decide_eq_true tW_
            obtain ⟨ad243, e243, hx243_0⟩ := Kd.at_int (Kd.R_reads' HO227.out).2.2 0 p243 q243
            cases e243
            have qi243 : (0 < t225.length) = True := eq_true (by omega)
            (try rw [show ((0 : Int)).toNat = 0 from rfl] at hx243_0)
            (try rw [Addr.add_zero'] at hx243_0)
            have hn243_0 : ad243.block ≠ gb242 := Kd.own_blk (Kd.R_ne HO227.out BK242.out (by decide))
            have hn243_1 : ad243.block ≠ gb242 := Kd.own_blk (Kd.R_ne HO227.out BK242.out (by decide))
            have hn243_2 : ad243.block ≠ gb242 := Kd.own_blk (Kd.R_ne HO227.out BK242.out (by decide))
            have hn243_3 : ad243.block ≠ gb242 := Kd.own_blk (Kd.R_ne HO227.out BK242.out (by decide))
            have hn243_4 : ad243.block ≠ gb242 := Kd.own_blk (Kd.R_ne HO227.out BK242.out (by decide))
            have hn243_5 : ad243.block ≠ gb242 := Kd.own_blk (Kd.R_ne HO227.out BK242.out (by decide))
            have hn243_6 : ad243.block ≠ gb242 := Kd.own_blk (Kd.R_ne HO227.out BK242.out (by decide))
            have hn243_7 : ad243.block ≠ gb242 := Kd.own_blk (Kd.R_ne HO227.out BK242.out (by decide))
            have hn243_8 : ad243.block ≠ gb242 := Kd.own_blk (Kd.R_ne HO227.out BK242.out (by decide))
            have hn243_9 : ad243.block ≠ gb242 := Kd.own_blk (Kd.R_ne HO227.out BK242.out (by decide))
            replace hx243_0 := (cell_far (p := ⟨gb242, 0, none⟩) (aB_ hn243_0) (.int .i64 t222)).trans hx243_0
            replace hx243_0 := (cell_far (p := ⟨gb242, 1, none⟩) (aB_ hn243_1) (.int .i64 t223)).trans hx243_0
            replace hx243_0 := (cell_far (p := ⟨gb242, 2, none⟩) (aB_ hn243_2) (.int .i64 t224)).trans hx243_0
            replace hx243_0 := (cell_far (p := ⟨gb242, 3, none⟩) (aB_ hn243_3) (.slice (some ad243) t225.length co35)).trans hx243_0
            replace hx243_0 := (cell_far (p := ⟨gb242, 4, none⟩) (aB_ hn243_4) (.slice Ao37 t228.length co37)).trans hx243_0
            replace hx243_0 := (cell_far (p := ⟨gb242, 5, none⟩) (aB_ hn243_5) (.slice Ao39 t231.length co39)).trans hx243_0
            replace hx243_0 := (cell_far (p := ⟨gb242, 6, none⟩) (aB_ hn243_6) (.slice Ao41 t234.length co41)).trans hx243_0
            replace hx243_0 := (cell_far (p := ⟨gb242, 7, none⟩) (aB_ hn243_7) (.int .i64 t237)).trans hx243_0
            replace hx243_0 := (cell_far (p := ⟨gb242, 8, none⟩) (aB_ hn243_8) (.int .i64 t238)).trans hx243_0
            replace hx243_0 := (cell_far (p := ⟨gb242, 9, none⟩) (aB_ hn243_9) (.bool t239)).trans hx243_0
            clear hn243_0
            clear hn243_1
            clear hn243_2
            clear hn243_3
            clear hn243_4
            clear hn243_5
            clear hn243_6
            clear hn243_7
            clear hn243_8
            clear hn243_9
            replace p243 := eq_true p243
            replace q243 := eq_true q243
            have p244 : 0 ≤ (0 : Int) := (by omega)
            have q244 : 0 < (t228.length : Int) := of_decide_eq_true tW_
            obtain ⟨ad244, e244, hx244_0⟩ := Kd.at_int (Kd.R_reads' HO230.out).2.2 0 p244 q244
            cases e244
            have qi244 : (0 < t228.length) = True := eq_true (by omega)
            (try rw [show ((0 : Int)).toNat = 0 from rfl] at hx244_0)
            (try rw [Addr.add_zero'] at hx244_0)
            have hn244_0 : ad244.block ≠ gb242 := Kd.own_blk (Kd.R_ne HO230.out BK242.out (by decide))
            have hn244_1 : ad244.block ≠ gb242 := Kd.own_blk (Kd.R_ne HO230.out BK242.out (by decide))
            have hn244_2 : ad244.block ≠ gb242 := Kd.own_blk (Kd.R_ne HO230.out BK242.out (by decide))
            have hn244_3 : ad244.block ≠ gb242 := Kd.own_blk (Kd.R_ne HO230.out BK242.out (by decide))
            have hn244_4 : ad244.block ≠ gb242 := Kd.own_blk (Kd.R_ne HO230.out BK242.out (by decide))
            have hn244_5 : ad244.block ≠ gb242 := Kd.own_blk (Kd.R_ne HO230.out BK242.out (by decide))
            have hn244_6 : ad244.block ≠ gb242 := Kd.own_blk (Kd.R_ne HO230.out BK242.out (by decide))
            have hn244_7 : ad244.block ≠ gb242 := Kd.own_blk (Kd.R_ne HO230.out BK242.out (by decide))
            have hn244_8 : ad244.block ≠ gb242 := Kd.own_blk (Kd.R_ne HO230.out BK242.out (by decide))
            have hn244_9 : ad244.block ≠ gb242 := Kd.own_blk (Kd.R_ne HO230.out BK242.out (by decide))
            replace hx244_0 := (cell_far (p := ⟨gb242, 0, none⟩) (aB_ hn244_0) (.int .i64 t222)).trans hx244_0
            replace hx244_0 := (cell_far (p := ⟨gb242, 1, none⟩) (aB_ hn244_1) (.int .i64 t223)).trans hx244_0
            replace hx244_0 := (cell_far (p := ⟨gb242, 2, none⟩) (aB_ hn244_2) (.int .i64 t224)).trans hx244_0
            replace hx244_0 := (cell_far (p := ⟨gb242, 3, none⟩) (aB_ hn244_3) (.slice (some ad243) t225.length co35)).trans hx244_0
            replace hx244_0 := (cell_far (p := ⟨gb242, 4, none⟩) (aB_ hn244_4) (.slice (some ad244) t228.length co37)).trans hx244_0
            replace hx244_0 := (cell_far (p := ⟨gb242, 5, none⟩) (aB_ hn244_5) (.slice Ao39 t231.length co39)).trans hx244_0
            replace hx244_0 := (cell_far (p := ⟨gb242, 6, none⟩) (aB_ hn244_6) (.slice Ao41 t234.length co41)).trans hx244_0
            replace hx244_0 := (cell_far (p := ⟨gb242, 7, none⟩) (aB_ hn244_7) (.int .i64 t237)).trans hx244_0
            replace hx244_0 := (cell_far (p := ⟨gb242, 8, none⟩) (aB_ hn244_8) (.int .i64 t238)).trans hx244_0
            replace hx244_0 := (cell_far (p := ⟨gb242, 9, none⟩) (aB_ hn244_9) (.bool t239)).trans hx244_0
            clear hn244_0
            clear hn244_1
            clear hn244_2
            clear hn244_3
            clear hn244_4
            clear hn244_5
            clear hn244_6
            clear hn244_7
            clear hn244_8
            clear hn244_9
            replace p244 := eq_true p244
            replace q244 := eq_true q244
            try go_wp2
            go_ret
            exact ⟨tE_, dL2_ HB GE218 GE242⟩
           ·rw [if_neg c15] at H
            exact absurd H (by simp)
          ·rw [if_neg c14] at H
           have c14b0 : ((t228.length : Int) == 1) = false := beq_eq_false_iff_ne.mpr c14
           have c14b1 : ((t228.length : Int) != 1) = true := bne_iff_ne.mpr c14
           exact absurd H (by simp)
         ·rw [if_neg c13] at H
          have c13b0 : ((rd t225 0) == 1) = false := beq_eq_false_iff_ne.mpr c13
          have c13b1 : ((rd t225 0) != 1) = true := bne_iff_ne.mpr c13
          exact absurd H (by simp)
        ·rw [if_neg c12] at H
         exact absurd H (by simp)
       ·rw [if_neg c11] at H
        have c11b0 : ((t225.length : Int) == 1) = false := beq_eq_false_iff_ne.mpr c11
        have c11b1 : ((t225.length : Int) != 1) = true := bne_iff_ne.mpr c11
        exact absurd H (by simp)
      ·rw [if_neg c10] at H
       have c10b0 : (t200 == 7) = false := beq_eq_false_iff_ne.mpr c10
       have c10b1 : (t200 != 7) = true := bne_iff_ne.mpr c10
       exact absurd H (by simp)
     ·replace c9 := Bool.eq_false_iff.mpr c9
      subst c9
      have H1 : (none) = some r := by rw [if_neg (show ¬ (false = true) by decide)] at H; exact H
      exact absurd H1 (by simp)
    ·rw [if_neg c8] at H
     have c8b0 : (t201 == 16) = false := beq_eq_false_iff_ne.mpr c8
     have c8b1 : (t201 != 16) = true := bne_iff_ne.mpr c8
     exact absurd H (by simp)
   ·rw [if_neg c7] at H
    have c7b0 : (t240 == 3) = false := beq_eq_false_iff_ne.mpr c7
    have c7b1 : (t240 != 3) = true := bne_iff_ne.mpr c7
    exact absurd H (by simp)
  ·rw [if_neg c6] at H
   have c6b0 : (t241 == 0) = false := beq_eq_false_iff_ne.mpr c6
   have c6b1 : (t241 != 0) = true := bne_iff_ne.mpr c6
   exact absurd H (by simp)
 ·rw [if_neg c5] at H
  have c5b0 : (t217 == 0) = false := beq_eq_false_iff_ne.mpr c5
  have c5b1 : (t217 != 0) = true := bne_iff_ne.mpr c5
  exact absurd H (by simp)

end Go.Proofs.Ytnkgelnkoljgdaa.Q
