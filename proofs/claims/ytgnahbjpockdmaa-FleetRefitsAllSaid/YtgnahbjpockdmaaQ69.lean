-- PRINTED by print.py out of the translation. Not trusted: Lean checks it.
import Derived.Test.YtgnahbjpockdmaaPrs
import Derived.Test.YtgnahbjpockdmaaQ0
import Derived.Test.YtgnahbjpockdmaaQ3
import Derived.Test.YtgnahbjpockdmaaQ13
import Derived.Test.YtgnahbjpockdmaaQ47
import Derived.Test.YtgnahbjpockdmaaQ2
import Derived.Test.YtgnahbjpockdmaaQ68
namespace Go.Proofs.Ytgnahbjpockdmaa.Q
open Go.RowKit Go.Proofs.YtgnahbjpockdmaaPrs Go.Proofs.YtgnahbjpockdmaaOwn Go.Proofs.YtgnahbjpockdmaaW.PrintWords Go.Proofs.YtgnahbjpockdmaaW.PrintLast Go.Proofs.YtgnahbjpockdmaaW.PrintMore
attribute [local go_sem] max2_int min2_int max_two min_two max_three min_three max_four min_four   -- for this text's walks alone
set_option linter.unusedVariables false
set_option linter.unusedSimpArgs false

/-! ### hinterlandlaw14_FleetRefitsAll: function 14 -/
def hinterlandlaw14_FleetRefitsAll.l0 : Nat → List (S54) → Int → Int → Int → List Int → Int → Int → List Int → List Int → Int → Int → Int → Int → List (S69) → Option (Bool)
  | 0, _, _, _, _, _, _, _, _, _, _, _, _, _, _ => none
  | k + 1, x0, x2, x3, x12, x38, x39, x40, x742000, x742001, x742002, x742003, x742004, x742005, x742006 => if x40 < x39 then (if 0 ≤ x40 then (if x40 < (x38.length : Int) then (if 0 ≤ (rd x38 x40) then (if (rd x38 x40) < (x0.length : Int) then (hinterlandlaw14_FleetRefitsAll.l0 k x0 x2 x3 (wrap64 (x12 + ((rd_T54 x0 (rd x38 x40)).f7))) x38 x39 (wrap64 (x40 + 1)) x742000 x742001 x742002 x742003 x742004 x742005 x742006) else (none)) else (none)) else (none)) else (none)) else ((fleet_Rooms.f k x0 x742000 x742001 x742002 x742003 x742004 x742005 x742006 x2).bind fun bt745 => ((fleet_Rooms.f k x0 x742000 x742001 x742002 x742003 x742004 x742005 x742006 x3).bind fun bt747 => ((fleet_Refit.f k x0 x742000 x742001 x742002 x742003 x742004 x742005 x742006 x2).bind fun bt749 => (if bt745.2 = 0 then (if bt745.1 = x12 then (if x3 = x2 then (if bt749.2.2.2.2.2.2.2.2 = 0 then (if bt749.2.2.2.2.2.2.2.1 = 0 then ((hinterlandsame_Car.f k x742000 x742001 x742002 x742003 x742004 x742005 x742006 bt749.1 bt749.2.1 bt749.2.2.1 bt749.2.2.2.1 bt749.2.2.2.2.1 bt749.2.2.2.2.2.1 bt749.2.2.2.2.2.2.1).bind fun t765 => (if t765 = true then ((hinterlandlaw14_known.f k).bind fun t766 => (some t766)) else (some false))) else (some false)) else (some false)) else (if bt747.2 = 0 then (if bt747.1 = 0 then (if bt749.2.2.2.2.2.2.2.2 = 0 then (if bt749.2.2.2.2.2.2.2.1 = 0 then ((hinterlandsame_Car.f k x742000 x742001 x742002 x742003 x742004 x742005 x742006 bt749.1 bt749.2.1 bt749.2.2.1 bt749.2.2.2.1 bt749.2.2.2.2.1 bt749.2.2.2.2.2.1 bt749.2.2.2.2.2.2.1).bind fun t767 => (if t767 = true then ((hinterlandlaw14_known.f k).bind fun t768 => (some t768)) else (some false))) else (some false)) else (some false)) else (some false)) else (if bt749.2.2.2.2.2.2.2.2 = 0 then (if bt749.2.2.2.2.2.2.2.1 = 0 then ((hinterlandsame_Car.f k x742000 x742001 x742002 x742003 x742004 x742005 x742006 bt749.1 bt749.2.1 bt749.2.2.1 bt749.2.2.2.1 bt749.2.2.2.2.1 bt749.2.2.2.2.2.1 bt749.2.2.2.2.2.2.1).bind fun t769 => (if t769 = true then ((hinterlandlaw14_known.f k).bind fun t770 => (some t770)) else (some false))) else (some false)) else (some false)))) else (some false)) else (some false)))))
def hinterlandlaw14_FleetRefitsAll.f (k : Nat) (l0 : List (S54)) (l1_0 : List Int) (l1_1 : List Int) (a1_2 : Int) (a1_3 : Int) (a1_4 : Int) (a1_5 : Int) (l1_6 : List (S69)) (a2 : Int) (a3 : Int) : Option (Bool) := (hinterlandlaw14_large.f k l0 l1_0 l1_1 a1_2 a1_3 a1_4 a1_5 l1_6).bind fun t724 => (if t724 = true then ((hinterlandlaw14_known.f k).bind fun t725 => (some t725)) else ((fleet_Refit.f k l0 l1_0 l1_1 a1_2 a1_3 a1_4 a1_5 l1_6 a2).bind fun bt726 => (if bt726.2.2.2.2.2.2.2.2 = 0 then (hinterlandlaw14_FleetRefitsAll.l0 k l0 a2 a3 0 l1_0 (l1_0.length : Int) 0 bt726.1 bt726.2.1 bt726.2.2.1 bt726.2.2.2.1 bt726.2.2.2.2.1 bt726.2.2.2.2.2.1 bt726.2.2.2.2.2.2.1) else ((hinterlandlaw14_known.f k).bind fun t742 => (some t742)))))
theorem hinterlandlaw14_FleetRefitsAll.mono_l : ∀ k, (∀ y0 y1 y2 y3 y4 y5 y6 y7 y8 y9 y10 y11 y12 y13, LeO (hinterlandlaw14_FleetRefitsAll.l0 k y0 y1 y2 y3 y4 y5 y6 y7 y8 y9 y10 y11 y12 y13) (hinterlandlaw14_FleetRefitsAll.l0 (k + 1) y0 y1 y2 y3 y4 y5 y6 y7 y8 y9 y10 y11 y12 y13))
  | 0 => fun _ _ _ _ _ _ _ _ _ _ _ _ _ _ r h => by simp [hinterlandlaw14_FleetRefitsAll.l0] at h
  | k + 1 => by
    have ih0 := hinterlandlaw14_FleetRefitsAll.mono_l k
    · intro y0 y1 y2 y3 y4 y5 y6 y7 y8 y9 y10 y11 y12 y13
      unfold hinterlandlaw14_FleetRefitsAll.l0
      repeat' first
      | (with_reducible exact ih0 _ _ _ _ _ _ _ _ _ _ _ _ _ _)
      | (with_reducible exact fleet_Refit.mono _ _ _ _ _ _ _ _ _ _)
      | (with_reducible exact fleet_Rooms.mono _ _ _ _ _ _ _ _ _ _)
      | (with_reducible exact hinterlandlaw14_known.mono _)
      | (with_reducible exact hinterlandlaw14_large.mono _ _ _ _ _ _ _ _ _)
      | (with_reducible exact hinterlandsame_Car.mono _ _ _ _ _ _ _ _ _ _ _ _ _ _ _)
      | (with_reducible exact LeO.refl _)
      | (with_reducible exact LeO.none _)
      | (with_reducible refine LeO.ite ?_ ?_)
      | (with_reducible refine LeO.bind ?_ (fun _ => ?_))
      | exact ih0 _ _ _ _ _ _ _ _ _ _ _ _ _ _
      | exact fleet_Refit.mono _ _ _ _ _ _ _ _ _ _
      | exact fleet_Rooms.mono _ _ _ _ _ _ _ _ _ _
      | exact hinterlandlaw14_known.mono _
      | exact hinterlandlaw14_large.mono _ _ _ _ _ _ _ _ _
      | exact hinterlandsame_Car.mono _ _ _ _ _ _ _ _ _ _ _ _ _ _ _
      | exact LeO.none _
      | refine LeO.ite ?_ ?_
      | refine LeO.bind ?_ (fun _ => ?_)
theorem hinterlandlaw14_FleetRefitsAll.mono : ∀ a0 a1 a2 a3 a4 a5 a6 a7 a8 a9 k, LeO (hinterlandlaw14_FleetRefitsAll.f k a0 a1 a2 a3 a4 a5 a6 a7 a8 a9) (hinterlandlaw14_FleetRefitsAll.f (k + 1) a0 a1 a2 a3 a4 a5 a6 a7 a8 a9) := by
  intro a0 a1 a2 a3 a4 a5 a6 a7 a8 a9 k
  have ih0 := hinterlandlaw14_FleetRefitsAll.mono_l k
  unfold hinterlandlaw14_FleetRefitsAll.f
  repeat' first
      | (with_reducible exact ih0 _ _ _ _ _ _ _ _ _ _ _ _ _ _)
      | (with_reducible exact fleet_Refit.mono _ _ _ _ _ _ _ _ _ _)
      | (with_reducible exact fleet_Rooms.mono _ _ _ _ _ _ _ _ _ _)
      | (with_reducible exact hinterlandlaw14_known.mono _)
      | (with_reducible exact hinterlandlaw14_large.mono _ _ _ _ _ _ _ _ _)
      | (with_reducible exact hinterlandsame_Car.mono _ _ _ _ _ _ _ _ _ _ _ _ _ _ _)
      | (with_reducible exact LeO.refl _)
      | (with_reducible exact LeO.none _)
      | (with_reducible refine LeO.ite ?_ ?_)
      | (with_reducible refine LeO.bind ?_ (fun _ => ?_))
      | exact ih0 _ _ _ _ _ _ _ _ _ _ _ _ _ _
      | exact fleet_Refit.mono _ _ _ _ _ _ _ _ _ _
      | exact fleet_Rooms.mono _ _ _ _ _ _ _ _ _ _
      | exact hinterlandlaw14_known.mono _
      | exact hinterlandlaw14_large.mono _ _ _ _ _ _ _ _ _
      | exact hinterlandsame_Car.mono _ _ _ _ _ _ _ _ _ _ _ _ _ _ _
      | exact LeO.none _
      | refine LeO.ite ?_ ?_
      | refine LeO.bind ?_ (fun _ => ?_)
set_option maxHeartbeats 8000000 in
set_option maxRecDepth 100000 in
theorem hinterlandlaw14_FleetRefitsAll.calls (k : Nat) (A0 : Option Addr) (c0 : Nat) (l0 : List (S54)) (A1_0 : Option Addr) (c1_0 : Nat) (l1_0 : List Int) (A1_1 : Option Addr) (c1_1 : Nat) (l1_1 : List Int) (a1_2 : Int) (a1_3 : Int) (a1_4 : Int) (a1_5 : Int) (A1_6 : Option Addr) (c1_6 : Nat) (l1_6 : List (S69)) (a2 : Int) (a3 : Int) (r : Bool) (w : World) (hr0 : Kd.C k54 w A0 l0.length l0) (hc0 : l0.length ≤ c0) (hr1_0 : Kd.C (Kd.int .i64) w A1_0 l1_0.length l1_0) (hc1_0 : l1_0.length ≤ c1_0) (hr1_1 : Kd.C (Kd.int .i64) w A1_1 l1_1.length l1_1) (hc1_1 : l1_1.length ≤ c1_1) (hr1_6 : Kd.C k69 w A1_6 l1_6.length l1_6) (hc1_6 : l1_6.length ≤ c1_6) (h : hinterlandlaw14_FleetRefitsAll.f k l0 l1_0 l1_1 a1_2 a1_3 a1_4 a1_5 l1_6 a2 a3 = some r) :
    Calls Try.prog 14 #[.slice A0 l0.length c0, .agg #[.slice A1_0 l1_0.length c1_0, .slice A1_1 l1_1.length c1_1, .int .i64 a1_2, .int .i64 a1_3, .int .i64 a1_4, .int .i64 a1_5, .slice A1_6 l1_6.length c1_6], .int .i64 a2, .int .i64 a3] w fun e w' => e = .returned (.bool r) ∧ Below w.heap.size w w' := by
 have hu27 := Try.underlying27
 have HR0 := Aside0.mk hr0
 have HC0 := Aside0.mk hc0
 clear hr0 hc0
 have HR1_0 := Aside0.mk hr1_0
 have HC1_0 := Aside0.mk hc1_0
 clear hr1_0 hc1_0
 have HR1_1 := Aside0.mk hr1_1
 have HC1_1 := Aside0.mk hc1_1
 clear hr1_1 hc1_1
 have HR1_6 := Aside0.mk hr1_6
 have HC1_6 := Aside0.mk hc1_6
 clear hr1_6 hc1_6
 have HB := Aside0.mk (Below.refl w.heap.size w)
 have H : ((hinterlandlaw14_large.f k l0 l1_0 l1_1 a1_2 a1_3 a1_4 a1_5 l1_6).bind fun t724 => (if t724 = true then ((hinterlandlaw14_known.f k).bind fun t725 => (some t725)) else ((fleet_Refit.f k l0 l1_0 l1_1 a1_2 a1_3 a1_4 a1_5 l1_6 a2).bind fun bt726 => (if bt726.2.2.2.2.2.2.2.2 = 0 then (hinterlandlaw14_FleetRefitsAll.l0 k l0 a2 a3 0 l1_0 (l1_0.length : Int) 0 bt726.1 bt726.2.1 bt726.2.2.1 bt726.2.2.2.1 bt726.2.2.2.2.1 bt726.2.2.2.2.2.1 bt726.2.2.2.2.2.2.1) else ((hinterlandlaw14_known.f k).bind fun t742 => (some t742)))))) = some r := h
 clear h
 replace H := Option.bind_eq_some_iff.mp H
 obtain ⟨t724, A50, H⟩ := H
 replace H : (if t724 = true then ((hinterlandlaw14_known.f k).bind fun t725 => (some t725)) else ((fleet_Refit.f k l0 l1_0 l1_1 a1_2 a1_3 a1_4 a1_5 l1_6 a2).bind fun bt726 => (if bt726.2.2.2.2.2.2.2.2 = 0 then (hinterlandlaw14_FleetRefitsAll.l0 k l0 a2 a3 0 l1_0 (l1_0.length : Int) 0 bt726.1 bt726.2.1 bt726.2.2.1 bt726.2.2.2.1 bt726.2.2.2.2.1 bt726.2.2.2.2.2.1 bt726.2.2.2.2.2.2.1) else ((hinterlandlaw14_known.f k).bind fun t742 => (some t742))))) = some r := H
 have A5 := Aside0.mk A50
 clear A50
 by_cases c6 : t724 = true
 ·subst c6
  have H1 : ((hinterlandlaw14_known.f k).bind fun t725 => (some t725)) = some r := by rw [if_pos rfl] at H; exact H
  clear H
  have H := H1
  clear H1
  replace H := Option.bind_eq_some_iff.mp H
  obtain ⟨t725, A70, H⟩ := H
  replace H : (some t725) = some r := H
  have A7 := Aside0.mk A70
  clear A70
  obtain rfl := Option.some.inj H
  go_enter Try.func14, Try.ntmps14
  go_wp2_with (first | ((with_reducible refine gate_dst (N := 5) rfl ?_); refine box_event ?hg (N := 5) ?hd (cs := #[.slice A1_0 l1_0.length c1_0, .slice A1_1 l1_1.length c1_1, .int .i64 a1_2, .int .i64 a1_3, .int .i64 a1_4, .int .i64 a1_5, .slice A1_6 l1_6.length c1_6]) (t := 27) ?hr ?_; (case hd => rfl); (case hg => rfl); (case hr => first | (go_simp; done) | (go_simp; rfl)); intro gb723 hg w8 hbox hb; have n0_ := Aside0.mk (below_step (dL_ HB) hb); have n1_ := Aside0.mk (hbox); have n2_ := Aside0.mk ((dS_ hg (dL_ HB) : w.heap.size ≤ gb723)); have n3_ := Aside0.mk ((dS_ hg (dL_ HB) : w.heap.size ≤ gb723)); clear HB; have HB := n0_; have BK723 := n1_; have GW723 := n2_; have GE723 := n3_; clear n0_ n1_ n2_ n3_; clear hb hbox hg; obtain ⟨hcz9_0, hcz9_1, hcz9_2, hcz9_3, hcz9_4, hcz9_5, hcz9_6, hfz9_0, hfz9_1, hfz9_2, hfz9_3, hfz9_4, hfz9_5, hfz9_6⟩ := cs7_ BK723.out) | ((with_reducible refine gate_callee (f := 15) rfl ?_); refine goesL_ (some 24) rfl rfl Try.func15 (by kernel_rfl) rfl #[.slice A0 l0.length c0, .agg #[.slice A1_0 l1_0.length c1_0, .slice A1_1 l1_1.length c1_1, .int .i64 a1_2, .int .i64 a1_3, .int .i64 a1_4, .int .i64 a1_5, .slice A1_6 l1_6.length c1_6]] rfl tA_ ?_; (with_reducible refine (hinterlandlaw14_large.calls k _ _ l0 _ _ l1_0 _ _ l1_1 a1_2 a1_3 a1_4 a1_5 _ _ l1_6 true _ ?side1 ?side2 ?side3 ?side4 ?side5 ?side6 ?side7 ?side8 A5.out).mono ?_); (case side1 => exact dC_ HR0 HB); (case side2 => exact HC0.out); (case side3 => exact dC_ HR1_0 HB); (case side4 => exact HC1_0.out); (case side5 => exact dC_ HR1_1 HB); (case side6 => exact HC1_1.out); (case side7 => exact dC_ HR1_6 HB); (case side8 => exact HC1_6.out); rintro e w10 ⟨rfl, hb⟩; refine ⟨_, rfl, ?_⟩; have n0_ := Aside0.mk (bb_ BK723 hb); have n1_ := Aside0.mk (below_step (dL1_ HB GE723) hb); clear BK723; clear HB; have BK723 := n0_; have HB := n1_; clear n0_ n1_; (try clear hb); (try clear hb2); (try clear hk); (try clear hi)) | ((with_reducible refine gate_callee (f := 16) rfl ?_); refine goesL_ (some 25) rfl rfl Try.func16 (by kernel_rfl) rfl #[] rfl tA_ ?_; (with_reducible refine (hinterlandlaw14_known.calls k  t725 _ A7.out).mono ?_); rintro e w11 ⟨rfl, hb⟩; refine ⟨_, rfl, ?_⟩; have n0_ := Aside0.mk (bb_ BK723 hb); have n1_ := Aside0.mk (below_step (dL1_ HB GE723) hb); clear BK723; clear HB; have BK723 := n0_; have HB := n1_; clear n0_ n1_; (try clear hb); (try clear hb2); (try clear hk); (try clear hi)))
  go_ret
  exact ⟨tE_, dL1_ HB GE723⟩
 ·replace c6 := Bool.eq_false_iff.mpr c6
  subst c6
  have H1 : ((fleet_Refit.f k l0 l1_0 l1_1 a1_2 a1_3 a1_4 a1_5 l1_6 a2).bind fun bt726 => (if bt726.2.2.2.2.2.2.2.2 = 0 then (hinterlandlaw14_FleetRefitsAll.l0 k l0 a2 a3 0 l1_0 (l1_0.length : Int) 0 bt726.1 bt726.2.1 bt726.2.2.1 bt726.2.2.2.1 bt726.2.2.2.2.1 bt726.2.2.2.2.2.1 bt726.2.2.2.2.2.2.1) else ((hinterlandlaw14_known.f k).bind fun t742 => (some t742)))) = some r := by rw [if_neg (show ¬ (false = true) by decide)] at H; exact H
  clear H
  have H := H1
  clear H1
  replace H := Option.bind_eq_some_iff.mp H
  obtain ⟨⟨t726, t729, t732, t733, t734, t735, t736, t739, t740⟩, A120, H⟩ := H
  replace H : (if t740 = 0 then (hinterlandlaw14_FleetRefitsAll.l0 k l0 a2 a3 0 l1_0 (l1_0.length : Int) 0 t726 t729 t732 t733 t734 t735 t736) else ((hinterlandlaw14_known.f k).bind fun t742 => (some t742))) = some r := H
  have A12 := Aside0.mk A120
  clear A120
  by_cases c13 : t740 = 0
  ·rw [if_pos c13] at H
   have c13b0 : (t740 == 0) = true := beq_iff_eq.mpr c13
   have c13b1 : (t740 != 0) = false := bne_eq_false_iff_eq.mpr c13
   clear c13
   have H' := Aside0.mk H
   clear H
   go_enter Try.func14, Try.ntmps14
   go_wp2_with (first | ((with_reducible refine gate_dst (N := 5) rfl ?_); refine box_event ?hg (N := 5) ?hd (cs := #[.slice A1_0 l1_0.length c1_0, .slice A1_1 l1_1.length c1_1, .int .i64 a1_2, .int .i64 a1_3, .int .i64 a1_4, .int .i64 a1_5, .slice A1_6 l1_6.length c1_6]) (t := 27) ?hr ?_; (case hd => rfl); (case hg => rfl); (case hr => first | (go_simp; done) | (go_simp; rfl)); intro gb723 hg w14 hbox hb; have n0_ := Aside0.mk (below_step (dL_ HB) hb); have n1_ := Aside0.mk (hbox); have n2_ := Aside0.mk ((dS_ hg (dL_ HB) : w.heap.size ≤ gb723)); have n3_ := Aside0.mk ((dS_ hg (dL_ HB) : w.heap.size ≤ gb723)); clear HB; have HB := n0_; have BK723 := n1_; have GW723 := n2_; have GE723 := n3_; clear n0_ n1_ n2_ n3_; clear hb hbox hg; obtain ⟨hcz15_0, hcz15_1, hcz15_2, hcz15_3, hcz15_4, hcz15_5, hcz15_6, hfz15_0, hfz15_1, hfz15_2, hfz15_3, hfz15_4, hfz15_5, hfz15_6⟩ := cs7_ BK723.out) | ((with_reducible refine gate_callee (f := 15) rfl ?_); refine goesL_ (some 24) rfl rfl Try.func15 (by kernel_rfl) rfl #[.slice A0 l0.length c0, .agg #[.slice A1_0 l1_0.length c1_0, .slice A1_1 l1_1.length c1_1, .int .i64 a1_2, .int .i64 a1_3, .int .i64 a1_4, .int .i64 a1_5, .slice A1_6 l1_6.length c1_6]] rfl tA_ ?_; (with_reducible refine (hinterlandlaw14_large.calls k _ _ l0 _ _ l1_0 _ _ l1_1 a1_2 a1_3 a1_4 a1_5 _ _ l1_6 false _ ?side1 ?side2 ?side3 ?side4 ?side5 ?side6 ?side7 ?side8 A5.out).mono ?_); (case side1 => exact dC_ HR0 HB); (case side2 => exact HC0.out); (case side3 => exact dC_ HR1_0 HB); (case side4 => exact HC1_0.out); (case side5 => exact dC_ HR1_1 HB); (case side6 => exact HC1_1.out); (case side7 => exact dC_ HR1_6 HB); (case side8 => exact HC1_6.out); rintro e w16 ⟨rfl, hb⟩; refine ⟨_, rfl, ?_⟩; have n0_ := Aside0.mk (bb_ BK723 hb); have n1_ := Aside0.mk (below_step (dL1_ HB GE723) hb); clear BK723; clear HB; have BK723 := n0_; have HB := n1_; clear n0_ n1_; (try clear hb); (try clear hb2); (try clear hk); (try clear hi); obtain ⟨hcz17_0, hcz17_1, hcz17_2, hcz17_3, hcz17_4, hcz17_5, hcz17_6, hfz17_0, hfz17_1, hfz17_2, hfz17_3, hfz17_4, hfz17_5, hfz17_6⟩ := cs7_ BK723.out) | ((with_reducible refine gate_callee (f := 36) rfl ?_); refine goesL_ (some 30) rfl rfl Try.func36 (by kernel_rfl) rfl #[.slice A0 l0.length c0, .agg #[.slice A1_0 l1_0.length c1_0, .slice A1_1 l1_1.length c1_1, .int .i64 a1_2, .int .i64 a1_3, .int .i64 a1_4, .int .i64 a1_5, .slice A1_6 l1_6.length c1_6], .int .i64 a2] rfl tA_ ?_; (with_reducible refine (fleet_Refit.calls k _ _ l0 _ _ l1_0 _ _ l1_1 a1_2 a1_3 a1_4 a1_5 _ _ l1_6 a2 t726 t729 t732 t733 t734 t735 t736 t739 t740 _ ?side1 ?side2 ?side3 ?side4 ?side5 ?side6 ?side7 ?side8 A12.out).mono ?_); (case side1 => exact dC_ HR0 HB); (case side2 => exact HC0.out); (case side3 => exact dC_ HR1_0 HB); (case side4 => exact HC1_0.out); (case side5 => exact dC_ HR1_1 HB); (case side6 => exact HC1_1.out); (case side7 => exact dC_ HR1_6 HB); (case side8 => exact HC1_6.out); rintro e w18 ⟨v727, v730, v737, rfl, ho0, ho1, ho2, hb⟩; refine ⟨_, rfl, ?_⟩; have n0_ := Aside0.mk (Kd.R_lower ho0 (below_size (dL1_ HB GE723))); have n1_ := Aside0.mk (Kd.R_lower ho1 (below_size (dL1_ HB GE723))); have n2_ := Aside0.mk (Kd.R_lower ho2 (below_size (dL1_ HB GE723))); have n3_ := Aside0.mk (bb_ BK723 hb); have n4_ := Aside0.mk (below_step (dL1_ HB GE723) hb); clear BK723; clear HB; have HO728 := n0_; have HO731 := n1_; have HO738 := n2_; have BK723 := n3_; have HB := n4_; clear n0_ n1_ n2_ n3_ n4_; (try clear hb); (try clear hb2); (try clear hk); (try clear hi); (try clear ho0); (try clear ho1); (try clear ho2)) | ((with_reducible refine gate_dst (N := 9) rfl ?_); refine box_event ?hg (N := 9) ?hd (cs := #[.slice none 0 0, .slice none 0 0, .int .i64 0, .int .i64 0, .int .i64 0, .int .i64 0, .slice none 0 0]) (t := 27) ?hr ?_; (case hd => rfl); (case hg => rfl); (case hr => first | (go_simp; done) | (go_simp; rfl)); intro gb741 hg w19 hbox hb; have n0_ := Aside0.mk (Kd.R_below (dR_ HO728) hb); have n1_ := Aside0.mk (Kd.R_below (dR_ HO731) hb); have n2_ := Aside0.mk (Kd.R_below (dR_ HO738) hb); have n3_ := Aside0.mk (bb_ BK723 hb); have n4_ := Aside0.mk (below_step (dL1_ HB GE723) hb); have n5_ := Aside0.mk (hbox); have n6_ := Aside0.mk ((dS_ hg (dL1_ HB GE723) : w.heap.size ≤ gb741)); have n7_ := Aside0.mk ((dS_ hg (dL1_ HB GE723) : w.heap.size ≤ gb741)); have n8_ := Aside0.mk ((by rw [hg]; exact Nat.ne_of_lt (blk_lt (dB_ BK723)) : gb723 ≠ gb741)); have n9_ := Aside0.mk ((by rw [hg]; exact Nat.ne_of_gt (blk_lt (dB_ BK723)) : gb741 ≠ gb723)); clear HO728; clear HO731; clear HO738; clear BK723; clear HB; have HO728 := n0_; have HO731 := n1_; have HO738 := n2_; have BK723 := n3_; have HB := n4_; have BK741 := n5_; have GW741 := n6_; have GE741 := n7_; have NB723_741 := n8_; have NB741_723 := n9_; clear n0_ n1_ n2_ n3_ n4_ n5_ n6_ n7_ n8_ n9_; clear hb hbox hg; obtain ⟨Ao20, co20, eo20⟩ := Kd.R_slice HO728.out; subst eo20; have hnb21 := NB741_723.out; have hnc21 := NB723_741.out; obtain ⟨hcz22_0, hcz22_1, hcz22_2, hcz22_3, hcz22_4, hcz22_5, hcz22_6, hfz22_0, hfz22_1, hfz22_2, hfz22_3, hfz22_4, hfz22_5, hfz22_6⟩ := cs7_ BK741.out; obtain ⟨Ao23, co23, eo23⟩ := Kd.R_slice HO731.out; subst eo23; obtain ⟨Ao24, co24, eo24⟩ := Kd.R_slice HO738.out; subst eo24; obtain ⟨hcz25_0, hcz25_1, hcz25_2, hcz25_3, hcz25_4, hcz25_5, hcz25_6, hfz25_0, hfz25_1, hfz25_2, hfz25_3, hfz25_4, hfz25_5, hfz25_6⟩ := cs7_ BK723.out))
   go_loopg [12, 40] k (fun kq v12 v40 w' => ∃ (x12_1 : Int) (x40_1 : Int), v12 = .int .i64 x12_1 ∧ v40 = .int .i64 x40_1 ∧ Aside0 (hinterlandlaw14_FleetRefitsAll.l0 kq l0 a2 a3 x12_1 l1_0 (l1_0.length : Int) x40_1 t726 t729 t732 t733 t734 t735 t736 = some r) ∧ Aside0 (kq ≤ k) ∧ Aside0 (Kd.R (Kd.int .i64) 3 w' w.heap.size (fun k_ => some k_ ≠ ((.slice Ao23 t729.length co23) : Value).ownBlock) (.slice Ao20 t726.length co20) t726) ∧ Aside0 (Kd.R (Kd.int .i64) 3 w' w.heap.size (fun k_ => some k_ ≠ ((.slice Ao20 t726.length co20) : Value).ownBlock) (.slice Ao23 t729.length co23) t729) ∧ Aside0 (Kd.R k69 69 w' w.heap.size (fun _ => True) (.slice Ao24 t736.length co24) t736) ∧ Aside0 (w'.heap[gb723]? = some (.cells #[(.slice A1_0 l1_0.length c1_0), (.slice A1_1 l1_1.length c1_1), .int .i64 a1_2, .int .i64 a1_3, .int .i64 a1_4, .int .i64 a1_5, (.slice A1_6 l1_6.length c1_6)] 27 (0, 0))) ∧ Aside0 (w'.heap[gb741]? = some (.cells #[(.slice Ao20 t726.length co20), (.slice Ao23 t729.length co23), .int .i64 t732, .int .i64 t733, .int .i64 t734, .int .i64 t735, (.slice Ao24 t736.length co24)] 27 (0, 0))) ∧ Aside0 (Below w.heap.size w w'))
   case atStart => exact ⟨(0), (0), tS_, tS_, H', ⟨Nat.le_refl _⟩, ⟨by (with_reducible repeat (first | apply Kd.R_alloc | apply Kd.R_drewN | apply Kd.R_drew)); exact Kd.R_mono (far7_ (Kd.R_types HO728.out BK741.out (by decide)) gb741 (fun _ hk => hk.2) (.slice Ao20 t726.length co20) (.slice Ao23 t729.length co23) (.int .i64 t732) (.int .i64 t733) (.int .i64 t734) (.int .i64 t735) (.slice Ao24 t736.length co24)) (fun _ hk => hk.1)⟩, ⟨by (with_reducible repeat (first | apply Kd.R_alloc | apply Kd.R_drewN | apply Kd.R_drew)); exact Kd.R_mono (far7_ (Kd.R_types HO731.out BK741.out (by decide)) gb741 (fun _ hk => hk.2) (.slice Ao20 t726.length co20) (.slice Ao23 t729.length co23) (.int .i64 t732) (.int .i64 t733) (.int .i64 t734) (.int .i64 t735) (.slice Ao24 t736.length co24)) (fun _ hk => hk.1)⟩, ⟨by (with_reducible repeat (first | apply Kd.R_alloc | apply Kd.R_drewN | apply Kd.R_drew)); exact Kd.R_mono (far7_ (Kd.R_types HO738.out BK741.out (by decide)) gb741 (fun _ hk => hk.2) (.slice Ao20 t726.length co20) (.slice Ao23 t729.length co23) (.int .i64 t732) (.int .i64 t733) (.int .i64 t734) (.int .i64 t735) (.slice Ao24 t736.length co24)) (fun _ hk => trivial)⟩, ⟨dF7_ BK723 NB723_741⟩, ⟨dP7_ BK741⟩, ⟨dL2_ HB GE723 GE741⟩⟩
   case round =>
    clear H'
    try clear c6
    try clear c13
    try clear c13b0
    try clear c13b1
    try clear hcz15_0
    try clear hcz15_1
    try clear hcz15_2
    try clear hcz15_3
    try clear hcz15_4
    try clear hcz15_5
    try clear hcz15_6
    try clear hcz17_0
    try clear hcz17_1
    try clear hcz17_2
    try clear hcz17_3
    try clear hcz17_4
    try clear hcz17_5
    try clear hcz17_6
    try clear hcz22_0
    try clear hcz22_1
    try clear hcz22_2
    try clear hcz22_3
    try clear hcz22_4
    try clear hcz22_5
    try clear hcz22_6
    try clear hcz25_0
    try clear hcz25_1
    try clear hcz25_2
    try clear hcz25_3
    try clear hcz25_4
    try clear hcz25_5
    try clear hcz25_6
    try clear hfz15_0
    try clear hfz15_1
    try clear hfz15_2
    try clear hfz15_3
    try clear hfz15_4
    try clear hfz15_5
    try clear hfz15_6
    try clear hfz17_0
    try clear hfz17_1
    try clear hfz17_2
    try clear hfz17_3
    try clear hfz17_4
    try clear hfz17_5
    try clear hfz17_6
    try clear hfz22_0
    try clear hfz22_1
    try clear hfz22_2
    try clear hfz22_3
    try clear hfz22_4
    try clear hfz22_5
    try clear hfz22_6
    try clear hfz25_0
    try clear hfz25_1
    try clear hfz25_2
    try clear hfz25_3
    try clear hfz25_4
    try clear hfz25_5
    try clear hfz25_6
    obtain ⟨x12_1, x40_1, rfl, rfl, HA, HK1, HO_742000, HO_742001, HO_742006, BK723, BK741, HB⟩ := hrel
    cases gk with
    | zero => exact absurd HA.out (by simp [hinterlandlaw14_FleetRefitsAll.l0])
    | succ k1 =>
     have H := HA.out
     clear HA
     simp only [hinterlandlaw14_FleetRefitsAll.l0] at H
     refine (Classical.em (x40_1 < (l1_0.length : Int))).elim (fun c26 => ?a37_) (fun c26 => ?b37_)
     case a37_ =>
      rw [if_pos c26] at H
      have c26b0 : decide (x40_1 < (l1_0.length : Int)) = true := decide_eq_true c26
      clear c26
      by_cases c27 : 0 ≤ x40_1
      ·rw [if_pos c27] at H
       have c27b0 : decide (0 ≤ x40_1) = true := decide_eq_true c27
       clear c27
       by_cases c28 : x40_1 < (l1_0.length : Int)
       ·rw [if_pos c28] at H
        have c28b0 : decide (x40_1 < (l1_0.length : Int)) = true := decide_eq_true c28
        clear c28
        by_cases c29 : 0 ≤ (rd l1_0 x40_1)
        ·rw [if_pos c29] at H
         have c29b0 : decide (0 ≤ (rd l1_0 x40_1)) = true := decide_eq_true c29
         clear c29
         by_cases c30 : (rd l1_0 x40_1) < (l0.length : Int)
         ·rw [if_pos c30] at H
          have c30b0 : decide ((rd l1_0 x40_1) < (l0.length : Int)) = true := decide_eq_true c30
          clear c30
          have H' := Aside0.mk H
          clear H
          have p743 : 0 ≤ (x40_1 : Int) := of_decide_eq_true tW_
          have q743 : x40_1 < (l1_0.length : Int) := of_decide_eq_true tW_
          obtain ⟨ad743, e743, hx743_0⟩ := Kd.at_int HR1_0.out x40_1 p743 q743
          cases e743
          replace hx743_0 := bc_ HB hx743_0
          replace p743 := eq_true p743
          replace q743 := eq_true q743
          have p744 : 0 ≤ ((rd l1_0 x40_1) : Int) := of_decide_eq_true tW_
          have q744 : (rd l1_0 x40_1) < (l0.length : Int) := of_decide_eq_true tW_
          obtain ⟨ad744, e744, hx744_0, hx744_1, hx744_2, hx744_3, hx744_4, hx744_5, hx744_6, hx744_7, hx744_8, hx744_9, hx744_10, hx744_11, hx744_12, hx744_13⟩ := at_T54 HR0.out (rd l1_0 x40_1) p744 q744
          cases e744
          replace hx744_0 := bc_ HB hx744_0
          replace hx744_1 := bc_ HB hx744_1
          replace hx744_2 := bc_ HB hx744_2
          replace hx744_3 := bc_ HB hx744_3
          replace hx744_4 := bc_ HB hx744_4
          replace hx744_5 := bc_ HB hx744_5
          replace hx744_6 := bc_ HB hx744_6
          replace hx744_7 := bc_ HB hx744_7
          replace hx744_8 := bc_ HB hx744_8
          replace hx744_9 := bc_ HB hx744_9
          replace hx744_10 := bc_ HB hx744_10
          replace hx744_11 := bc_ HB hx744_11
          replace hx744_12 := bc_ HB hx744_12
          replace hx744_13 := bc_ HB hx744_13
          replace p744 := eq_true p744
          replace q744 := eq_true q744
          go_wp2
          go_roundg k1
          case measure => have := HK1.out; omega
          case rel => exact ⟨(wrap64 (x12_1 + ((rd_T54 l0 (rd l1_0 x40_1)).f7))), (wrap64 (x40_1 + 1)), tS_, tS_, H', ⟨by have := HK1.out; omega⟩, ⟨dR_ HO_742000⟩, ⟨dR_ HO_742001⟩, ⟨dR_ HO_742006⟩, ⟨dB_ BK723⟩, ⟨dB_ BK741⟩, ⟨dL2_ HB GE723 GE741⟩⟩
         ·rw [if_neg c30] at H
          exact absurd H (by simp)
        ·rw [if_neg c29] at H
         exact absurd H (by simp)
       ·rw [if_neg c28] at H
        exact absurd H (by simp)
      ·rw [if_neg c27] at H
       exact absurd H (by simp)
     case' b37_ =>
      rw [if_neg c26] at H
      have c26b0 : decide (x40_1 < (l1_0.length : Int)) = false := decide_eq_false c26
      clear c26
      replace H := Option.bind_eq_some_iff.mp H
      obtain ⟨⟨t745, t746⟩, A310, H⟩ := H
      replace H : ((fleet_Rooms.f k1 l0 t726 t729 t732 t733 t734 t735 t736 a3).bind fun bt747 => ((fleet_Refit.f k1 l0 t726 t729 t732 t733 t734 t735 t736 a2).bind fun bt749 => (if t746 = 0 then (if t745 = x12_1 then (if a3 = a2 then (if bt749.2.2.2.2.2.2.2.2 = 0 then (if bt749.2.2.2.2.2.2.2.1 = 0 then ((hinterlandsame_Car.f k1 t726 t729 t732 t733 t734 t735 t736 bt749.1 bt749.2.1 bt749.2.2.1 bt749.2.2.2.1 bt749.2.2.2.2.1 bt749.2.2.2.2.2.1 bt749.2.2.2.2.2.2.1).bind fun t765 => (if t765 = true then ((hinterlandlaw14_known.f k1).bind fun t766 => (some t766)) else (some false))) else (some false)) else (some false)) else (if bt747.2 = 0 then (if bt747.1 = 0 then (if bt749.2.2.2.2.2.2.2.2 = 0 then (if bt749.2.2.2.2.2.2.2.1 = 0 then ((hinterlandsame_Car.f k1 t726 t729 t732 t733 t734 t735 t736 bt749.1 bt749.2.1 bt749.2.2.1 bt749.2.2.2.1 bt749.2.2.2.2.1 bt749.2.2.2.2.2.1 bt749.2.2.2.2.2.2.1).bind fun t767 => (if t767 = true then ((hinterlandlaw14_known.f k1).bind fun t768 => (some t768)) else (some false))) else (some false)) else (some false)) else (some false)) else (if bt749.2.2.2.2.2.2.2.2 = 0 then (if bt749.2.2.2.2.2.2.2.1 = 0 then ((hinterlandsame_Car.f k1 t726 t729 t732 t733 t734 t735 t736 bt749.1 bt749.2.1 bt749.2.2.1 bt749.2.2.2.1 bt749.2.2.2.2.1 bt749.2.2.2.2.2.1 bt749.2.2.2.2.2.2.1).bind fun t769 => (if t769 = true then ((hinterlandlaw14_known.f k1).bind fun t770 => (some t770)) else (some false))) else (some false)) else (some false)))) else (some false)) else (some false)))) = some r := H
      have A31 := Aside0.mk A310
      clear A310
      replace H := Option.bind_eq_some_iff.mp H
      obtain ⟨⟨t747, t748⟩, A320, H⟩ := H
      replace H : ((fleet_Refit.f k1 l0 t726 t729 t732 t733 t734 t735 t736 a2).bind fun bt749 => (if t746 = 0 then (if t745 = x12_1 then (if a3 = a2 then (if bt749.2.2.2.2.2.2.2.2 = 0 then (if bt749.2.2.2.2.2.2.2.1 = 0 then ((hinterlandsame_Car.f k1 t726 t729 t732 t733 t734 t735 t736 bt749.1 bt749.2.1 bt749.2.2.1 bt749.2.2.2.1 bt749.2.2.2.2.1 bt749.2.2.2.2.2.1 bt749.2.2.2.2.2.2.1).bind fun t765 => (if t765 = true then ((hinterlandlaw14_known.f k1).bind fun t766 => (some t766)) else (some false))) else (some false)) else (some false)) else (if t748 = 0 then (if t747 = 0 then (if bt749.2.2.2.2.2.2.2.2 = 0 then (if bt749.2.2.2.2.2.2.2.1 = 0 then ((hinterlandsame_Car.f k1 t726 t729 t732 t733 t734 t735 t736 bt749.1 bt749.2.1 bt749.2.2.1 bt749.2.2.2.1 bt749.2.2.2.2.1 bt749.2.2.2.2.2.1 bt749.2.2.2.2.2.2.1).bind fun t767 => (if t767 = true then ((hinterlandlaw14_known.f k1).bind fun t768 => (some t768)) else (some false))) else (some false)) else (some false)) else (some false)) else (if bt749.2.2.2.2.2.2.2.2 = 0 then (if bt749.2.2.2.2.2.2.2.1 = 0 then ((hinterlandsame_Car.f k1 t726 t729 t732 t733 t734 t735 t736 bt749.1 bt749.2.1 bt749.2.2.1 bt749.2.2.2.1 bt749.2.2.2.2.1 bt749.2.2.2.2.2.1 bt749.2.2.2.2.2.2.1).bind fun t769 => (if t769 = true then ((hinterlandlaw14_known.f k1).bind fun t770 => (some t770)) else (some false))) else (some false)) else (some false)))) else (some false)) else (some false))) = some r := H
      have A32 := Aside0.mk A320
      clear A320
      replace H := Option.bind_eq_some_iff.mp H
      obtain ⟨⟨t749, t752, t755, t756, t757, t758, t759, t762, t763⟩, A330, H⟩ := H
      replace H : (if t746 = 0 then (if t745 = x12_1 then (if a3 = a2 then (if t763 = 0 then (if t762 = 0 then ((hinterlandsame_Car.f k1 t726 t729 t732 t733 t734 t735 t736 t749 t752 t755 t756 t757 t758 t759).bind fun t765 => (if t765 = true then ((hinterlandlaw14_known.f k1).bind fun t766 => (some t766)) else (some false))) else (some false)) else (some false)) else (if t748 = 0 then (if t747 = 0 then (if t763 = 0 then (if t762 = 0 then ((hinterlandsame_Car.f k1 t726 t729 t732 t733 t734 t735 t736 t749 t752 t755 t756 t757 t758 t759).bind fun t767 => (if t767 = true then ((hinterlandlaw14_known.f k1).bind fun t768 => (some t768)) else (some false))) else (some false)) else (some false)) else (some false)) else (if t763 = 0 then (if t762 = 0 then ((hinterlandsame_Car.f k1 t726 t729 t732 t733 t734 t735 t736 t749 t752 t755 t756 t757 t758 t759).bind fun t769 => (if t769 = true then ((hinterlandlaw14_known.f k1).bind fun t770 => (some t770)) else (some false))) else (some false)) else (some false)))) else (some false)) else (some false)) = some r := H
      have A33 := Aside0.mk A330
      clear A330
      refine (Classical.em (t746 = 0)).elim (fun c34 => ?a38_) (fun c34 => ?b38_)
      case' a38_ =>
       rw [if_pos c34] at H
       have c34b0 : (t746 == 0) = true := beq_iff_eq.mpr c34
       have c34b1 : (t746 != 0) = false := bne_eq_false_iff_eq.mpr c34
       clear c34
       refine (Classical.em (t745 = x12_1)).elim (fun c35 => ?a39_) (fun c35 => ?b39_)
       case' a39_ =>
        rw [if_pos c35] at H
        have c35b0 : (t745 == x12_1) = true := beq_iff_eq.mpr c35
        have c35b1 : (t745 != x12_1) = false := bne_eq_false_iff_eq.mpr c35
        clear c35
        refine (Classical.em (a3 = a2)).elim (fun c36 => ?a40_) (fun c36 => ?b40_)
        case' a40_ =>
         rw [if_pos c36] at H
         have c36b0 : (a3 == a2) = true := beq_iff_eq.mpr c36
         have c36b1 : (a3 != a2) = false := bne_eq_false_iff_eq.mpr c36
         clear c36
         refine (Classical.em (t763 = 0)).elim (fun c37 => ?a41_) (fun c37 => ?b41_)
         case' a41_ =>
          rw [if_pos c37] at H
          have c37b0 : (t763 == 0) = true := beq_iff_eq.mpr c37
          have c37b1 : (t763 != 0) = false := bne_eq_false_iff_eq.mpr c37
          clear c37
          refine (Classical.em (t762 = 0)).elim (fun c38 => ?a42_) (fun c38 => ?b42_)
          case' a42_ =>
           rw [if_pos c38] at H
           have c38b0 : (t762 == 0) = true := beq_iff_eq.mpr c38
           have c38b1 : (t762 != 0) = false := bne_eq_false_iff_eq.mpr c38
           clear c38
           replace H := Option.bind_eq_some_iff.mp H
           obtain ⟨t765, A390, H⟩ := H
           replace H : (if t765 = true then ((hinterlandlaw14_known.f k1).bind fun t766 => (some t766)) else (some false)) = some r := H
           have A39 := Aside0.mk A390
           clear A390
           refine (Classical.em (t765 = true)).elim (fun c40 => ?a43_) (fun c40 => ?b43_)
           case' a43_ =>
            subst c40
            have H1 : ((hinterlandlaw14_known.f k1).bind fun t766 => (some t766)) = some r := by rw [if_pos rfl] at H; exact H
            clear H
            have H := H1
            clear H1
            replace H := Option.bind_eq_some_iff.mp H
            obtain ⟨t766, A410, H⟩ := H
            replace H : (some t766) = some r := H
            have A41 := Aside0.mk A410
            clear A410
            obtain rfl := Option.some.inj H
           case' b43_ =>
            replace c40 := Bool.eq_false_iff.mpr c40
            subst c40
            have H1 : (some false) = some r := by rw [if_neg (show ¬ (false = true) by decide)] at H; exact H
            clear H
            have H := H1
            clear H1
            obtain rfl := Option.some.inj H
          case' b42_ =>
           rw [if_neg c38] at H
           have c38b0 : (t762 == 0) = false := beq_eq_false_iff_ne.mpr c38
           have c38b1 : (t762 != 0) = true := bne_iff_ne.mpr c38
           obtain rfl := Option.some.inj H
         case' b41_ =>
          rw [if_neg c37] at H
          have c37b0 : (t763 == 0) = false := beq_eq_false_iff_ne.mpr c37
          have c37b1 : (t763 != 0) = true := bne_iff_ne.mpr c37
          obtain rfl := Option.some.inj H
        case' b40_ =>
         rw [if_neg c36] at H
         have c36b0 : (a3 == a2) = false := beq_eq_false_iff_ne.mpr c36
         have c36b1 : (a3 != a2) = true := bne_iff_ne.mpr c36
         refine (Classical.em (t748 = 0)).elim (fun c103 => ?a44_) (fun c103 => ?b44_)
         case' a44_ =>
          rw [if_pos c103] at H
          have c103b0 : (t748 == 0) = true := beq_iff_eq.mpr c103
          have c103b1 : (t748 != 0) = false := bne_eq_false_iff_eq.mpr c103
          clear c103
          refine (Classical.em (t747 = 0)).elim (fun c104 => ?a45_) (fun c104 => ?b45_)
          case' a45_ =>
           rw [if_pos c104] at H
           have c104b0 : (t747 == 0) = true := beq_iff_eq.mpr c104
           have c104b1 : (t747 != 0) = false := bne_eq_false_iff_eq.mpr c104
           clear c104
           refine (Classical.em (t763 = 0)).elim (fun c105 => ?a46_) (fun c105 => ?b46_)
           case' a46_ =>
            rw [if_pos c105] at H
            have c105b0 : (t763 == 0) = true := beq_iff_eq.mpr c105
            have c105b1 : (t763 != 0) = false := bne_eq_false_iff_eq.mpr c105
            clear c105
            refine (Classical.em (t762 = 0)).elim (fun c106 => ?a47_) (fun c106 => ?b47_)
            case' a47_ =>
             rw [if_pos c106] at H
             have c106b0 : (t762 == 0) = true := beq_iff_eq.mpr c106
             have c106b1 : (t762 != 0) = false := bne_eq_false_iff_eq.mpr c106
             clear c106
             replace H := Option.bind_eq_some_iff.mp H
             obtain ⟨t767, A1070, H⟩ := H
             replace H : (if t767 = true then ((hinterlandlaw14_known.f k1).bind fun t768 => (some t768)) else (some false)) = some r := H
             have A107 := Aside0.mk A1070
             clear A1070
             refine (Classical.em (t767 = true)).elim (fun c108 => ?a48_) (fun c108 => ?b48_)
             case' a48_ =>
              subst c108
              have H1 : ((hinterlandlaw14_known.f k1).bind fun t768 => (some t768)) = some r := by rw [if_pos rfl] at H; exact H
              clear H
              have H := H1
              clear H1
              replace H := Option.bind_eq_some_iff.mp H
              obtain ⟨t768, A1090, H⟩ := H
              replace H : (some t768) = some r := H
              have A109 := Aside0.mk A1090
              clear A1090
              obtain rfl := Option.some.inj H
             case' b48_ =>
              replace c108 := Bool.eq_false_iff.mpr c108
              subst c108
              have H1 : (some false) = some r := by rw [if_neg (show ¬ (false = true) by decide)] at H; exact H
              clear H
              have H := H1
              clear H1
              obtain rfl := Option.some.inj H
            case' b47_ =>
             rw [if_neg c106] at H
             have c106b0 : (t762 == 0) = false := beq_eq_false_iff_ne.mpr c106
             have c106b1 : (t762 != 0) = true := bne_iff_ne.mpr c106
             obtain rfl := Option.some.inj H
           case' b46_ =>
            rw [if_neg c105] at H
            have c105b0 : (t763 == 0) = false := beq_eq_false_iff_ne.mpr c105
            have c105b1 : (t763 != 0) = true := bne_iff_ne.mpr c105
            obtain rfl := Option.some.inj H
          case' b45_ =>
           rw [if_neg c104] at H
           have c104b0 : (t747 == 0) = false := beq_eq_false_iff_ne.mpr c104
           have c104b1 : (t747 != 0) = true := bne_iff_ne.mpr c104
           obtain rfl := Option.some.inj H
         case' b44_ =>
          rw [if_neg c103] at H
          have c103b0 : (t748 == 0) = false := beq_eq_false_iff_ne.mpr c103
          have c103b1 : (t748 != 0) = true := bne_iff_ne.mpr c103
          refine (Classical.em (t763 = 0)).elim (fun c185 => ?a49_) (fun c185 => ?b49_)
          case' a49_ =>
           rw [if_pos c185] at H
           have c185b0 : (t763 == 0) = true := beq_iff_eq.mpr c185
           have c185b1 : (t763 != 0) = false := bne_eq_false_iff_eq.mpr c185
           clear c185
           refine (Classical.em (t762 = 0)).elim (fun c186 => ?a50_) (fun c186 => ?b50_)
           case' a50_ =>
            rw [if_pos c186] at H
            have c186b0 : (t762 == 0) = true := beq_iff_eq.mpr c186
            have c186b1 : (t762 != 0) = false := bne_eq_false_iff_eq.mpr c186
            clear c186
            replace H := Option.bind_eq_some_iff.mp H
            obtain ⟨t769, A1870, H⟩ := H
            replace H : (if t769 = true then ((hinterlandlaw14_known.f k1).bind fun t770 => (some t770)) else (some false)) = some r := H
            have A187 := Aside0.mk A1870
            clear A1870
            refine (Classical.em (t769 = true)).elim (fun c188 => ?a51_) (fun c188 => ?b51_)
            case' a51_ =>
             subst c188
             have H1 : ((hinterlandlaw14_known.f k1).bind fun t770 => (some t770)) = some r := by rw [if_pos rfl] at H; exact H
             clear H
             have H := H1
             clear H1
             replace H := Option.bind_eq_some_iff.mp H
             obtain ⟨t770, A1890, H⟩ := H
             replace H : (some t770) = some r := H
             have A189 := Aside0.mk A1890
             clear A1890
             obtain rfl := Option.some.inj H
            case' b51_ =>
             replace c188 := Bool.eq_false_iff.mpr c188
             subst c188
             have H1 : (some false) = some r := by rw [if_neg (show ¬ (false = true) by decide)] at H; exact H
             clear H
             have H := H1
             clear H1
             obtain rfl := Option.some.inj H
           case' b50_ =>
            rw [if_neg c186] at H
            have c186b0 : (t762 == 0) = false := beq_eq_false_iff_ne.mpr c186
            have c186b1 : (t762 != 0) = true := bne_iff_ne.mpr c186
            obtain rfl := Option.some.inj H
          case' b49_ =>
           rw [if_neg c185] at H
           have c185b0 : (t763 == 0) = false := beq_eq_false_iff_ne.mpr c185
           have c185b1 : (t763 != 0) = true := bne_iff_ne.mpr c185
           obtain rfl := Option.some.inj H
       case' b39_ =>
        rw [if_neg c35] at H
        have c35b0 : (t745 == x12_1) = false := beq_eq_false_iff_ne.mpr c35
        have c35b1 : (t745 != x12_1) = true := bne_iff_ne.mpr c35
        obtain rfl := Option.some.inj H
      case' b38_ =>
       rw [if_neg c34] at H
       have c34b0 : (t746 == 0) = false := beq_eq_false_iff_ne.mpr c34
       have c34b1 : (t746 != 0) = true := bne_iff_ne.mpr c34
       obtain rfl := Option.some.inj H
     all_goals (
      have hnbz1 := NB741_723.out
      have hncz1 := NB723_741.out
      obtain ⟨hczz1_0, hczz1_1, hczz1_2, hczz1_3, hczz1_4, hczz1_5, hczz1_6, hfzz1_0, hfzz1_1, hfzz1_2, hfzz1_3, hfzz1_4, hfzz1_5, hfzz1_6⟩ := cs7_ BK741.out
      go_wp2_with (first | ((with_reducible refine gate_callee (f := 29) rfl ?_); refine goesL_ (some 56) rfl rfl Try.func29 (by kernel_rfl) rfl #[.slice A0 l0.length c0, .agg #[.slice Ao20 t726.length co20, .slice Ao23 t729.length co23, .int .i64 t732, .int .i64 t733, .int .i64 t734, .int .i64 t735, .slice Ao24 t736.length co24], .int .i64 a2] rfl tA_ ?_; (with_reducible refine (fleet_Rooms.calls k1 _ _ l0 _ _ t726 _ _ t729 t732 t733 t734 t735 _ _ t736 a2 t745 t746 _ ?side1 ?side2 ?side3 ?side4 ?side5 ?side6 ?side7 ?side8 A31.out).mono ?_); (case side1 => exact dC_ HR0 HB); (case side2 => exact HC0.out); (case side3 => repeat (first | exact (Kd.R_reads' HO_742000.out).2.2 | (with_reducible refine Kd.C_alloc ?_ _) | (with_reducible refine Kd.C_drewN ?_ _) | (with_reducible refine Kd.C_drew ?_))); (case side4 => exact (Kd.R_reads' HO_742000.out).2.1); (case side5 => repeat (first | exact (Kd.R_reads' HO_742001.out).2.2 | (with_reducible refine Kd.C_alloc ?_ _) | (with_reducible refine Kd.C_drewN ?_ _) | (with_reducible refine Kd.C_drew ?_))); (case side6 => exact (Kd.R_reads' HO_742001.out).2.1); (case side7 => repeat (first | exact (Kd.R_reads' HO_742006.out).2.2 | (with_reducible refine Kd.C_alloc ?_ _) | (with_reducible refine Kd.C_drewN ?_ _) | (with_reducible refine Kd.C_drew ?_))); (case side8 => exact (Kd.R_reads' HO_742006.out).2.1); rintro e wz1 ⟨rfl, hb⟩; refine ⟨_, rfl, ?_⟩; have n0_ := Aside0.mk (Kd.R_below (dR_ HO_742000) hb); have n1_ := Aside0.mk (Kd.R_below (dR_ HO_742001) hb); have n2_ := Aside0.mk (Kd.R_below (dR_ HO_742006) hb); have n3_ := Aside0.mk (bb_ BK723 hb); have n4_ := Aside0.mk (bb_ BK741 hb); have n5_ := Aside0.mk (below_step (dL2_ HB GE723 GE741) hb); clear HO_742000; clear HO_742001; clear HO_742006; clear BK723; clear BK741; clear HB; have HO_742000 := n0_; have HO_742001 := n1_; have HO_742006 := n2_; have BK723 := n3_; have BK741 := n4_; have HB := n5_; clear n0_ n1_ n2_ n3_ n4_ n5_; (try clear hb); (try clear hb2); (try clear hk); (try clear hi); obtain ⟨hczz2_0, hczz2_1, hczz2_2, hczz2_3, hczz2_4, hczz2_5, hczz2_6, hfzz2_0, hfzz2_1, hfzz2_2, hfzz2_3, hfzz2_4, hfzz2_5, hfzz2_6⟩ := cs7_ BK741.out) | ((with_reducible refine gate_callee (f := 29) rfl ?_); refine goesL_ (some 63) rfl rfl Try.func29 (by kernel_rfl) rfl #[.slice A0 l0.length c0, .agg #[.slice Ao20 t726.length co20, .slice Ao23 t729.length co23, .int .i64 t732, .int .i64 t733, .int .i64 t734, .int .i64 t735, .slice Ao24 t736.length co24], .int .i64 a3] rfl tA_ ?_; (with_reducible refine (fleet_Rooms.calls k1 _ _ l0 _ _ t726 _ _ t729 t732 t733 t734 t735 _ _ t736 a3 t747 t748 _ ?side1 ?side2 ?side3 ?side4 ?side5 ?side6 ?side7 ?side8 A32.out).mono ?_); (case side1 => exact dC_ HR0 HB); (case side2 => exact HC0.out); (case side3 => repeat (first | exact (Kd.R_reads' HO_742000.out).2.2 | (with_reducible refine Kd.C_alloc ?_ _) | (with_reducible refine Kd.C_drewN ?_ _) | (with_reducible refine Kd.C_drew ?_))); (case side4 => exact (Kd.R_reads' HO_742000.out).2.1); (case side5 => repeat (first | exact (Kd.R_reads' HO_742001.out).2.2 | (with_reducible refine Kd.C_alloc ?_ _) | (with_reducible refine Kd.C_drewN ?_ _) | (with_reducible refine Kd.C_drew ?_))); (case side6 => exact (Kd.R_reads' HO_742001.out).2.1); (case side7 => repeat (first | exact (Kd.R_reads' HO_742006.out).2.2 | (with_reducible refine Kd.C_alloc ?_ _) | (with_reducible refine Kd.C_drewN ?_ _) | (with_reducible refine Kd.C_drew ?_))); (case side8 => exact (Kd.R_reads' HO_742006.out).2.1); rintro e wz2 ⟨rfl, hb⟩; refine ⟨_, rfl, ?_⟩; have n0_ := Aside0.mk (Kd.R_below (dR_ HO_742000) hb); have n1_ := Aside0.mk (Kd.R_below (dR_ HO_742001) hb); have n2_ := Aside0.mk (Kd.R_below (dR_ HO_742006) hb); have n3_ := Aside0.mk (bb_ BK723 hb); have n4_ := Aside0.mk (bb_ BK741 hb); have n5_ := Aside0.mk (below_step (dL2_ HB GE723 GE741) hb); clear HO_742000; clear HO_742001; clear HO_742006; clear BK723; clear BK741; clear HB; have HO_742000 := n0_; have HO_742001 := n1_; have HO_742006 := n2_; have BK723 := n3_; have BK741 := n4_; have HB := n5_; clear n0_ n1_ n2_ n3_ n4_ n5_; (try clear hb); (try clear hb2); (try clear hk); (try clear hi); obtain ⟨hczz3_0, hczz3_1, hczz3_2, hczz3_3, hczz3_4, hczz3_5, hczz3_6, hfzz3_0, hfzz3_1, hfzz3_2, hfzz3_3, hfzz3_4, hfzz3_5, hfzz3_6⟩ := cs7_ BK741.out) | ((with_reducible refine gate_callee (f := 36) rfl ?_); refine goesL_ (some 70) rfl rfl Try.func36 (by kernel_rfl) rfl #[.slice A0 l0.length c0, .agg #[.slice Ao20 t726.length co20, .slice Ao23 t729.length co23, .int .i64 t732, .int .i64 t733, .int .i64 t734, .int .i64 t735, .slice Ao24 t736.length co24], .int .i64 a2] rfl tA_ ?_; (with_reducible refine (fleet_Refit.calls k1 _ _ l0 _ _ t726 _ _ t729 t732 t733 t734 t735 _ _ t736 a2 t749 t752 t755 t756 t757 t758 t759 t762 t763 _ ?side1 ?side2 ?side3 ?side4 ?side5 ?side6 ?side7 ?side8 A33.out).mono ?_); (case side1 => exact dC_ HR0 HB); (case side2 => exact HC0.out); (case side3 => repeat (first | exact (Kd.R_reads' HO_742000.out).2.2 | (with_reducible refine Kd.C_alloc ?_ _) | (with_reducible refine Kd.C_drewN ?_ _) | (with_reducible refine Kd.C_drew ?_))); (case side4 => exact (Kd.R_reads' HO_742000.out).2.1); (case side5 => repeat (first | exact (Kd.R_reads' HO_742001.out).2.2 | (with_reducible refine Kd.C_alloc ?_ _) | (with_reducible refine Kd.C_drewN ?_ _) | (with_reducible refine Kd.C_drew ?_))); (case side6 => exact (Kd.R_reads' HO_742001.out).2.1); (case side7 => repeat (first | exact (Kd.R_reads' HO_742006.out).2.2 | (with_reducible refine Kd.C_alloc ?_ _) | (with_reducible refine Kd.C_drewN ?_ _) | (with_reducible refine Kd.C_drew ?_))); (case side8 => exact (Kd.R_reads' HO_742006.out).2.1); rintro e wz3 ⟨vz1, vz2, vz3, rfl, ho0, ho1, ho2, hb⟩; refine ⟨_, rfl, ?_⟩; have n0_ := Aside0.mk (Kd.R_mono (Kd.R_told (Kd.R_told (Kd.R_old (dR_ HO_742000) hb) (Kd.R_base ho0)) (Kd.R_base ho1)) (fun _ h_ => h_.1)); have n1_ := Aside0.mk (Kd.R_mono (Kd.R_told (Kd.R_told (Kd.R_old (dR_ HO_742001) hb) (Kd.R_base ho0)) (Kd.R_base ho1)) (fun _ h_ => h_.1)); have n2_ := Aside0.mk (Kd.R_elder' (dR_ HO_742006) (Kd.R_base ho2) hb); have n3_ := Aside0.mk (Kd.R_lower (Kd.R_new' (Kd.R_new' ho0 (Kd.R_lt (dR_ HO_742000))) (Kd.R_lt (dR_ HO_742001))) (below_size (dL2_ HB GE723 GE741))); have n4_ := Aside0.mk (Kd.R_lower (Kd.R_new' (Kd.R_new' ho1 (Kd.R_lt (dR_ HO_742000))) (Kd.R_lt (dR_ HO_742001))) (below_size (dL2_ HB GE723 GE741))); have n5_ := Aside0.mk (Kd.R_lower (Kd.R_new' ho2 (Kd.R_lt (dR_ HO_742006))) (below_size (dL2_ HB GE723 GE741))); have n6_ := Aside0.mk (bb_ BK723 hb); have n7_ := Aside0.mk (bb_ BK741 hb); have n8_ := Aside0.mk (below_step (dL2_ HB GE723 GE741) hb); clear HO_742000; clear HO_742001; clear HO_742006; clear BK723; clear BK741; clear HB; have HO_742000 := n0_; have HO_742001 := n1_; have HO_742006 := n2_; have HOz1 := n3_; have HOz2 := n4_; have HOz3 := n5_; have BK723 := n6_; have BK741 := n7_; have HB := n8_; clear n0_ n1_ n2_ n3_ n4_ n5_ n6_ n7_ n8_; (try clear hb); (try clear hb2); (try clear hk); (try clear hi); (try clear ho0); (try clear ho1); (try clear ho2)) | ((with_reducible refine gate_dst (N := 19) rfl ?_); refine box_event ?hg (N := 19) ?hd (cs := #[.slice none 0 0, .slice none 0 0, .int .i64 0, .int .i64 0, .int .i64 0, .int .i64 0, .slice none 0 0]) (t := 27) ?hr ?_; (case hd => rfl); (case hg => rfl); (case hr => first | (go_simp; done) | (go_simp; rfl)); intro gbz1 hg wz4 hbox hb; have n0_ := Aside0.mk (Kd.R_below (dR_ HO_742000) hb); have n1_ := Aside0.mk (Kd.R_below (dR_ HO_742001) hb); have n2_ := Aside0.mk (Kd.R_below (dR_ HO_742006) hb); have n3_ := Aside0.mk (Kd.R_below (dR_ HOz1) hb); have n4_ := Aside0.mk (Kd.R_below (dR_ HOz2) hb); have n5_ := Aside0.mk (Kd.R_below (dR_ HOz3) hb); have n6_ := Aside0.mk (bb_ BK723 hb); have n7_ := Aside0.mk (bb_ BK741 hb); have n8_ := Aside0.mk (below_step (dL2_ HB GE723 GE741) hb); have n9_ := Aside0.mk (hbox); have nz1_ := Aside0.mk ((dS_ hg (dL2_ HB GE723 GE741) : w.heap.size ≤ gbz1)); have nz2_ := Aside0.mk ((dS_ hg (dL2_ HB GE723 GE741) : w.heap.size ≤ gbz1)); have nz3_ := Aside0.mk ((by rw [hg]; exact Nat.ne_of_lt (blk_lt (dB_ BK723)) : gb723 ≠ gbz1)); have nz4_ := Aside0.mk ((by rw [hg]; exact Nat.ne_of_gt (blk_lt (dB_ BK723)) : gbz1 ≠ gb723)); have nz5_ := Aside0.mk ((by rw [hg]; exact Nat.ne_of_lt (blk_lt (dB_ BK741)) : gb741 ≠ gbz1)); have nz6_ := Aside0.mk ((by rw [hg]; exact Nat.ne_of_gt (blk_lt (dB_ BK741)) : gbz1 ≠ gb741)); clear HO_742000; clear HO_742001; clear HO_742006; clear HOz1; clear HOz2; clear HOz3; clear BK723; clear BK741; clear HB; have HO_742000 := n0_; have HO_742001 := n1_; have HO_742006 := n2_; have HOz1 := n3_; have HOz2 := n4_; have HOz3 := n5_; have BK723 := n6_; have BK741 := n7_; have HB := n8_; have BKz1 := n9_; have GWz1 := nz1_; have GEz1 := nz2_; have NB723_764 := nz3_; have NBz1_723 := nz4_; have NB741_764 := nz5_; have NBz1_741 := nz6_; clear n0_ n1_ n2_ n3_ n4_ n5_ n6_ n7_ n8_ n9_ nz1_ nz2_ nz3_ nz4_ nz5_ nz6_; clear hb hbox hg; obtain ⟨Aoz1, coz1, eoz1⟩ := Kd.R_slice HOz1.out; subst eoz1; have hnbz2 := NBz1_723.out; have hncz2 := NB723_764.out; have hnbz3 := NBz1_741.out; have hncz3 := NB741_764.out; obtain ⟨hczz4_0, hczz4_1, hczz4_2, hczz4_3, hczz4_4, hczz4_5, hczz4_6, hfzz4_0, hfzz4_1, hfzz4_2, hfzz4_3, hfzz4_4, hfzz4_5, hfzz4_6⟩ := cs7_ BKz1.out; obtain ⟨Aoz2, coz2, eoz2⟩ := Kd.R_slice HOz2.out; subst eoz2; obtain ⟨Aoz3, coz3, eoz3⟩ := Kd.R_slice HOz3.out; subst eoz3; obtain ⟨hczz5_0, hczz5_1, hczz5_2, hczz5_3, hczz5_4, hczz5_5, hczz5_6, hfzz5_0, hfzz5_1, hfzz5_2, hfzz5_3, hfzz5_4, hfzz5_5, hfzz5_6⟩ := cs7_ BK741.out) | (go_at_call 33; (with_reducible refine (hinterlandsame_Car.calls k1 _ _ t726 _ _ t729 t732 t733 t734 t735 _ _ t736 _ _ t749 _ _ t752 t755 t756 t757 t758 _ _ t759 _ _ ?side1 ?side2 ?side3 ?side4 ?side5 ?side6 ?side7 ?side8 ?side9 ?side10 ?side11 ?side12 A107.out).mono ?_); (case side1 => refine (Kd.R_reads' (e := 3) (base := w.heap.size) (ok := fun k_ => ((some k_ ≠ (.slice Ao23 t729.length co23 : Value).ownBlock ∧ some k_ ≠ (.slice Aoz1 t749.length coz1 : Value).ownBlock) ∧ some k_ ≠ (.slice Aoz2 t752.length coz2 : Value).ownBlock)) (n := t726.length) (c := co20) ?_).2.2; exact (by (with_reducible repeat (first | apply Kd.R_alloc | apply Kd.R_drewN | apply Kd.R_drew)); exact (Kd.R_mono (far7_ (Kd.R_types HO_742000.out BKz1.out (by decide)) gbz1 (fun _ hk => hk.2) (.slice Aoz1 t749.length coz1) (.slice Aoz2 t752.length coz2) (.int .i64 t755) (.int .i64 t756) (.int .i64 t757) (.int .i64 t758) (.slice Aoz3 t759.length coz3)) (fun _ h_ => h_.1)))); (case side2 => exact (Kd.R_reads' HO_742000.out).2.1); (case side3 => refine (Kd.R_reads' (e := 3) (base := w.heap.size) (ok := fun k_ => ((some k_ ≠ (.slice Ao20 t726.length co20 : Value).ownBlock ∧ some k_ ≠ (.slice Aoz1 t749.length coz1 : Value).ownBlock) ∧ some k_ ≠ (.slice Aoz2 t752.length coz2 : Value).ownBlock)) (n := t729.length) (c := co23) ?_).2.2; exact (by (with_reducible repeat (first | apply Kd.R_alloc | apply Kd.R_drewN | apply Kd.R_drew)); exact (Kd.R_mono (far7_ (Kd.R_types HO_742001.out BKz1.out (by decide)) gbz1 (fun _ hk => hk.2) (.slice Aoz1 t749.length coz1) (.slice Aoz2 t752.length coz2) (.int .i64 t755) (.int .i64 t756) (.int .i64 t757) (.int .i64 t758) (.slice Aoz3 t759.length coz3)) (fun _ h_ => h_.1)))); (case side4 => exact (Kd.R_reads' HO_742001.out).2.1); (case side5 => refine (Kd.R_reads' (e := 69) (base := w.heap.size) (ok := fun k_ => (True ∧ some k_ ≠ (.slice Aoz3 t759.length coz3 : Value).ownBlock)) (n := t736.length) (c := co24) ?_).2.2; exact (by (with_reducible repeat (first | apply Kd.R_alloc | apply Kd.R_drewN | apply Kd.R_drew)); exact (Kd.R_mono (far7_ (Kd.R_types HO_742006.out BKz1.out (by decide)) gbz1 (fun _ hk => hk.2) (.slice Aoz1 t749.length coz1) (.slice Aoz2 t752.length coz2) (.int .i64 t755) (.int .i64 t756) (.int .i64 t757) (.int .i64 t758) (.slice Aoz3 t759.length coz3)) (fun _ h_ => h_.1)))); (case side6 => exact (Kd.R_reads' HO_742006.out).2.1); (case side7 => refine (Kd.R_reads' (e := 3) (base := w.heap.size) (ok := fun k_ => ((some k_ ≠ (.slice Aoz2 t752.length coz2 : Value).ownBlock ∧ some k_ ≠ (.slice Ao20 t726.length co20 : Value).ownBlock) ∧ some k_ ≠ (.slice Ao23 t729.length co23 : Value).ownBlock)) (n := t749.length) (c := coz1) ?_).2.2; exact (by (with_reducible repeat (first | apply Kd.R_alloc | apply Kd.R_drewN | apply Kd.R_drew)); exact (Kd.R_mono (far7_ (Kd.R_types HOz1.out BKz1.out (by decide)) gbz1 (fun _ hk => hk.2) (.slice Aoz1 t749.length coz1) (.slice Aoz2 t752.length coz2) (.int .i64 t755) (.int .i64 t756) (.int .i64 t757) (.int .i64 t758) (.slice Aoz3 t759.length coz3)) (fun _ h_ => h_.1)))); (case side8 => exact (Kd.R_reads' HOz1.out).2.1); (case side9 => refine (Kd.R_reads' (e := 3) (base := w.heap.size) (ok := fun k_ => ((some k_ ≠ (.slice Aoz1 t749.length coz1 : Value).ownBlock ∧ some k_ ≠ (.slice Ao20 t726.length co20 : Value).ownBlock) ∧ some k_ ≠ (.slice Ao23 t729.length co23 : Value).ownBlock)) (n := t752.length) (c := coz2) ?_).2.2; exact (by (with_reducible repeat (first | apply Kd.R_alloc | apply Kd.R_drewN | apply Kd.R_drew)); exact (Kd.R_mono (far7_ (Kd.R_types HOz2.out BKz1.out (by decide)) gbz1 (fun _ hk => hk.2) (.slice Aoz1 t749.length coz1) (.slice Aoz2 t752.length coz2) (.int .i64 t755) (.int .i64 t756) (.int .i64 t757) (.int .i64 t758) (.slice Aoz3 t759.length coz3)) (fun _ h_ => h_.1)))); (case side10 => exact (Kd.R_reads' HOz2.out).2.1); (case side11 => refine (Kd.R_reads' (e := 69) (base := w.heap.size) (ok := fun k_ => (True ∧ some k_ ≠ (.slice Ao24 t736.length co24 : Value).ownBlock)) (n := t759.length) (c := coz3) ?_).2.2; exact (by (with_reducible repeat (first | apply Kd.R_alloc | apply Kd.R_drewN | apply Kd.R_drew)); exact (Kd.R_mono (far7_ (Kd.R_types HOz3.out BKz1.out (by decide)) gbz1 (fun _ hk => hk.2) (.slice Aoz1 t749.length coz1) (.slice Aoz2 t752.length coz2) (.int .i64 t755) (.int .i64 t756) (.int .i64 t757) (.int .i64 t758) (.slice Aoz3 t759.length coz3)) (fun _ h_ => h_.1)))); (case side12 => exact (Kd.R_reads' HOz3.out).2.1); rintro e wz5 ⟨rfl, hb⟩; have n0_ := Aside0.mk (Kd.R_below (by (with_reducible repeat (first | apply Kd.R_alloc | apply Kd.R_drewN | apply Kd.R_drew)); exact (Kd.R_mono (far7_ (Kd.R_types HO_742000.out BKz1.out (by decide)) gbz1 (fun _ hk => hk.2) (.slice Aoz1 t749.length coz1) (.slice Aoz2 t752.length coz2) (.int .i64 t755) (.int .i64 t756) (.int .i64 t757) (.int .i64 t758) (.slice Aoz3 t759.length coz3)) (fun _ h_ => h_.1))) hb); have n1_ := Aside0.mk (Kd.R_below (by (with_reducible repeat (first | apply Kd.R_alloc | apply Kd.R_drewN | apply Kd.R_drew)); exact (Kd.R_mono (far7_ (Kd.R_types HO_742001.out BKz1.out (by decide)) gbz1 (fun _ hk => hk.2) (.slice Aoz1 t749.length coz1) (.slice Aoz2 t752.length coz2) (.int .i64 t755) (.int .i64 t756) (.int .i64 t757) (.int .i64 t758) (.slice Aoz3 t759.length coz3)) (fun _ h_ => h_.1))) hb); have n2_ := Aside0.mk (Kd.R_below (by (with_reducible repeat (first | apply Kd.R_alloc | apply Kd.R_drewN | apply Kd.R_drew)); exact (Kd.R_mono (far7_ (Kd.R_types HO_742006.out BKz1.out (by decide)) gbz1 (fun _ hk => hk.2) (.slice Aoz1 t749.length coz1) (.slice Aoz2 t752.length coz2) (.int .i64 t755) (.int .i64 t756) (.int .i64 t757) (.int .i64 t758) (.slice Aoz3 t759.length coz3)) (fun _ h_ => h_.1))) hb); have n3_ := Aside0.mk (Kd.R_below (by (with_reducible repeat (first | apply Kd.R_alloc | apply Kd.R_drewN | apply Kd.R_drew)); exact (Kd.R_mono (far7_ (Kd.R_types HOz1.out BKz1.out (by decide)) gbz1 (fun _ hk => hk.2) (.slice Aoz1 t749.length coz1) (.slice Aoz2 t752.length coz2) (.int .i64 t755) (.int .i64 t756) (.int .i64 t757) (.int .i64 t758) (.slice Aoz3 t759.length coz3)) (fun _ h_ => h_.1))) hb); have n4_ := Aside0.mk (Kd.R_below (by (with_reducible repeat (first | apply Kd.R_alloc | apply Kd.R_drewN | apply Kd.R_drew)); exact (Kd.R_mono (far7_ (Kd.R_types HOz2.out BKz1.out (by decide)) gbz1 (fun _ hk => hk.2) (.slice Aoz1 t749.length coz1) (.slice Aoz2 t752.length coz2) (.int .i64 t755) (.int .i64 t756) (.int .i64 t757) (.int .i64 t758) (.slice Aoz3 t759.length coz3)) (fun _ h_ => h_.1))) hb); have n5_ := Aside0.mk (Kd.R_below (by (with_reducible repeat (first | apply Kd.R_alloc | apply Kd.R_drewN | apply Kd.R_drew)); exact (Kd.R_mono (far7_ (Kd.R_types HOz3.out BKz1.out (by decide)) gbz1 (fun _ hk => hk.2) (.slice Aoz1 t749.length coz1) (.slice Aoz2 t752.length coz2) (.int .i64 t755) (.int .i64 t756) (.int .i64 t757) (.int .i64 t758) (.slice Aoz3 t759.length coz3)) (fun _ h_ => h_.1))) hb); have n6_ := Aside0.mk (blk_below (g := gb723) (o := .cells #[.slice A1_0 l1_0.length c1_0, .slice A1_1 l1_1.length c1_1, .int .i64 a1_2, .int .i64 a1_3, .int .i64 a1_4, .int .i64 a1_5, .slice A1_6 l1_6.length c1_6] 27 (0, 0)) (dF7_ BK723 NB723_764) hb); have n7_ := Aside0.mk (blk_below (g := gb741) (o := .cells #[.slice Ao20 t726.length co20, .slice Ao23 t729.length co23, .int .i64 t732, .int .i64 t733, .int .i64 t734, .int .i64 t735, .slice Ao24 t736.length co24] 27 (0, 0)) (dF7_ BK741 NB741_764) hb); have n8_ := Aside0.mk (blk_below (g := gbz1) (o := .cells #[.slice Aoz1 t749.length coz1, .slice Aoz2 t752.length coz2, .int .i64 t755, .int .i64 t756, .int .i64 t757, .int .i64 t758, .slice Aoz3 t759.length coz3] 27 (0, 0)) (dP7_ BKz1) hb); have n9_ := Aside0.mk (below_step (dL3_ HB GE723 GE741 GEz1) hb); clear HO_742000; clear HO_742001; clear HO_742006; clear HOz1; clear HOz2; clear HOz3; clear BK723; clear BK741; clear BKz1; clear HB; have HO_742000 := n0_; have HO_742001 := n1_; have HO_742006 := n2_; have HOz1 := n3_; have HOz2 := n4_; have HOz3 := n5_; have BK723 := n6_; have BK741 := n7_; have BKz1 := n8_; have HB := n9_; clear n0_ n1_ n2_ n3_ n4_ n5_ n6_ n7_ n8_ n9_; (try clear hb); (try clear hb2); (try clear hk); (try clear hi)) | (go_at_call 16; (with_reducible refine (hinterlandlaw14_known.calls k1  t768 _ A109.out).mono ?_); rintro e wz6 ⟨rfl, hb⟩; have n0_ := Aside0.mk (Kd.R_below (dR_ HO_742000) hb); have n1_ := Aside0.mk (Kd.R_below (dR_ HO_742001) hb); have n2_ := Aside0.mk (Kd.R_below (dR_ HO_742006) hb); have n3_ := Aside0.mk (Kd.R_below (dR_ HOz1) hb); have n4_ := Aside0.mk (Kd.R_below (dR_ HOz2) hb); have n5_ := Aside0.mk (Kd.R_below (dR_ HOz3) hb); have n6_ := Aside0.mk (bb_ BK723 hb); have n7_ := Aside0.mk (bb_ BK741 hb); have n8_ := Aside0.mk (bb_ BKz1 hb); have n9_ := Aside0.mk (below_step (dL3_ HB GE723 GE741 GEz1) hb); clear HO_742000; clear HO_742001; clear HO_742006; clear HOz1; clear HOz2; clear HOz3; clear BK723; clear BK741; clear BKz1; clear HB; have HO_742000 := n0_; have HO_742001 := n1_; have HO_742006 := n2_; have HOz1 := n3_; have HOz2 := n4_; have HOz3 := n5_; have BK723 := n6_; have BK741 := n7_; have BKz1 := n8_; have HB := n9_; clear n0_ n1_ n2_ n3_ n4_ n5_ n6_ n7_ n8_ n9_; (try clear hb); (try clear hb2); (try clear hk); (try clear hi)) | (go_at_call 33; (with_reducible refine (hinterlandsame_Car.calls k1 _ _ t726 _ _ t729 t732 t733 t734 t735 _ _ t736 _ _ t749 _ _ t752 t755 t756 t757 t758 _ _ t759 _ _ ?side1 ?side2 ?side3 ?side4 ?side5 ?side6 ?side7 ?side8 ?side9 ?side10 ?side11 ?side12 A187.out).mono ?_); (case side1 => refine (Kd.R_reads' (e := 3) (base := w.heap.size) (ok := fun k_ => ((some k_ ≠ (.slice Ao23 t729.length co23 : Value).ownBlock ∧ some k_ ≠ (.slice Aoz1 t749.length coz1 : Value).ownBlock) ∧ some k_ ≠ (.slice Aoz2 t752.length coz2 : Value).ownBlock)) (n := t726.length) (c := co20) ?_).2.2; exact (by (with_reducible repeat (first | apply Kd.R_alloc | apply Kd.R_drewN | apply Kd.R_drew)); exact (Kd.R_mono (far7_ (Kd.R_types HO_742000.out BKz1.out (by decide)) gbz1 (fun _ hk => hk.2) (.slice Aoz1 t749.length coz1) (.slice Aoz2 t752.length coz2) (.int .i64 t755) (.int .i64 t756) (.int .i64 t757) (.int .i64 t758) (.slice Aoz3 t759.length coz3)) (fun _ h_ => h_.1)))); (case side2 => exact (Kd.R_reads' HO_742000.out).2.1); (case side3 => refine (Kd.R_reads' (e := 3) (base := w.heap.size) (ok := fun k_ => ((some k_ ≠ (.slice Ao20 t726.length co20 : Value).ownBlock ∧ some k_ ≠ (.slice Aoz1 t749.length coz1 : Value).ownBlock) ∧ some k_ ≠ (.slice Aoz2 t752.length coz2 : Value).ownBlock)) (n := t729.length) (c := co23) ?_).2.2; exact (by (with_reducible repeat (first | apply Kd.R_alloc | apply Kd.R_drewN | apply Kd.R_drew)); exact (Kd.R_mono (far7_ (Kd.R_types HO_742001.out BKz1.out (by decide)) gbz1 (fun _ hk => hk.2) (.slice Aoz1 t749.length coz1) (.slice Aoz2 t752.length coz2) (.int .i64 t755) (.int .i64 t756) (.int .i64 t757) (.int .i64 t758) (.slice Aoz3 t759.length coz3)) (fun _ h_ => h_.1)))); (case side4 => exact (Kd.R_reads' HO_742001.out).2.1); (case side5 => refine (Kd.R_reads' (e := 69) (base := w.heap.size) (ok := fun k_ => (True ∧ some k_ ≠ (.slice Aoz3 t759.length coz3 : Value).ownBlock)) (n := t736.length) (c := co24) ?_).2.2; exact (by (with_reducible repeat (first | apply Kd.R_alloc | apply Kd.R_drewN | apply Kd.R_drew)); exact (Kd.R_mono (far7_ (Kd.R_types HO_742006.out BKz1.out (by decide)) gbz1 (fun _ hk => hk.2) (.slice Aoz1 t749.length coz1) (.slice Aoz2 t752.length coz2) (.int .i64 t755) (.int .i64 t756) (.int .i64 t757) (.int .i64 t758) (.slice Aoz3 t759.length coz3)) (fun _ h_ => h_.1)))); (case side6 => exact (Kd.R_reads' HO_742006.out).2.1); (case side7 => refine (Kd.R_reads' (e := 3) (base := w.heap.size) (ok := fun k_ => ((some k_ ≠ (.slice Aoz2 t752.length coz2 : Value).ownBlock ∧ some k_ ≠ (.slice Ao20 t726.length co20 : Value).ownBlock) ∧ some k_ ≠ (.slice Ao23 t729.length co23 : Value).ownBlock)) (n := t749.length) (c := coz1) ?_).2.2; exact (by (with_reducible repeat (first | apply Kd.R_alloc | apply Kd.R_drewN | apply Kd.R_drew)); exact (Kd.R_mono (far7_ (Kd.R_types HOz1.out BKz1.out (by decide)) gbz1 (fun _ hk => hk.2) (.slice Aoz1 t749.length coz1) (.slice Aoz2 t752.length coz2) (.int .i64 t755) (.int .i64 t756) (.int .i64 t757) (.int .i64 t758) (.slice Aoz3 t759.length coz3)) (fun _ h_ => h_.1)))); (case side8 => exact (Kd.R_reads' HOz1.out).2.1); (case side9 => refine (Kd.R_reads' (e := 3) (base := w.heap.size) (ok := fun k_ => ((some k_ ≠ (.slice Aoz1 t749.length coz1 : Value).ownBlock ∧ some k_ ≠ (.slice Ao20 t726.length co20 : Value).ownBlock) ∧ some k_ ≠ (.slice Ao23 t729.length co23 : Value).ownBlock)) (n := t752.length) (c := coz2) ?_).2.2; exact (by (with_reducible repeat (first | apply Kd.R_alloc | apply Kd.R_drewN | apply Kd.R_drew)); exact (Kd.R_mono (far7_ (Kd.R_types HOz2.out BKz1.out (by decide)) gbz1 (fun _ hk => hk.2) (.slice Aoz1 t749.length coz1) (.slice Aoz2 t752.length coz2) (.int .i64 t755) (.int .i64 t756) (.int .i64 t757) (.int .i64 t758) (.slice Aoz3 t759.length coz3)) (fun _ h_ => h_.1)))); (case side10 => exact (Kd.R_reads' HOz2.out).2.1); (case side11 => refine (Kd.R_reads' (e := 69) (base := w.heap.size) (ok := fun k_ => (True ∧ some k_ ≠ (.slice Ao24 t736.length co24 : Value).ownBlock)) (n := t759.length) (c := coz3) ?_).2.2; exact (by (with_reducible repeat (first | apply Kd.R_alloc | apply Kd.R_drewN | apply Kd.R_drew)); exact (Kd.R_mono (far7_ (Kd.R_types HOz3.out BKz1.out (by decide)) gbz1 (fun _ hk => hk.2) (.slice Aoz1 t749.length coz1) (.slice Aoz2 t752.length coz2) (.int .i64 t755) (.int .i64 t756) (.int .i64 t757) (.int .i64 t758) (.slice Aoz3 t759.length coz3)) (fun _ h_ => h_.1)))); (case side12 => exact (Kd.R_reads' HOz3.out).2.1); rintro e wz5 ⟨rfl, hb⟩; have n0_ := Aside0.mk (Kd.R_below (by (with_reducible repeat (first | apply Kd.R_alloc | apply Kd.R_drewN | apply Kd.R_drew)); exact (Kd.R_mono (far7_ (Kd.R_types HO_742000.out BKz1.out (by decide)) gbz1 (fun _ hk => hk.2) (.slice Aoz1 t749.length coz1) (.slice Aoz2 t752.length coz2) (.int .i64 t755) (.int .i64 t756) (.int .i64 t757) (.int .i64 t758) (.slice Aoz3 t759.length coz3)) (fun _ h_ => h_.1))) hb); have n1_ := Aside0.mk (Kd.R_below (by (with_reducible repeat (first | apply Kd.R_alloc | apply Kd.R_drewN | apply Kd.R_drew)); exact (Kd.R_mono (far7_ (Kd.R_types HO_742001.out BKz1.out (by decide)) gbz1 (fun _ hk => hk.2) (.slice Aoz1 t749.length coz1) (.slice Aoz2 t752.length coz2) (.int .i64 t755) (.int .i64 t756) (.int .i64 t757) (.int .i64 t758) (.slice Aoz3 t759.length coz3)) (fun _ h_ => h_.1))) hb); have n2_ := Aside0.mk (Kd.R_below (by (with_reducible repeat (first | apply Kd.R_alloc | apply Kd.R_drewN | apply Kd.R_drew)); exact (Kd.R_mono (far7_ (Kd.R_types HO_742006.out BKz1.out (by decide)) gbz1 (fun _ hk => hk.2) (.slice Aoz1 t749.length coz1) (.slice Aoz2 t752.length coz2) (.int .i64 t755) (.int .i64 t756) (.int .i64 t757) (.int .i64 t758) (.slice Aoz3 t759.length coz3)) (fun _ h_ => h_.1))) hb); have n3_ := Aside0.mk (Kd.R_below (by (with_reducible repeat (first | apply Kd.R_alloc | apply Kd.R_drewN | apply Kd.R_drew)); exact (Kd.R_mono (far7_ (Kd.R_types HOz1.out BKz1.out (by decide)) gbz1 (fun _ hk => hk.2) (.slice Aoz1 t749.length coz1) (.slice Aoz2 t752.length coz2) (.int .i64 t755) (.int .i64 t756) (.int .i64 t757) (.int .i64 t758) (.slice Aoz3 t759.length coz3)) (fun _ h_ => h_.1))) hb); have n4_ := Aside0.mk (Kd.R_below (by (with_reducible repeat (first | apply Kd.R_alloc | apply Kd.R_drewN | apply Kd.R_drew)); exact (Kd.R_mono (far7_ (Kd.R_types HOz2.out BKz1.out (by decide)) gbz1 (fun _ hk => hk.2) (.slice Aoz1 t749.length coz1) (.slice Aoz2 t752.length coz2) (.int .i64 t755) (.int .i64 t756) (.int .i64 t757) (.int .i64 t758) (.slice Aoz3 t759.length coz3)) (fun _ h_ => h_.1))) hb); have n5_ := Aside0.mk (Kd.R_below (by (with_reducible repeat (first | apply Kd.R_alloc | apply Kd.R_drewN | apply Kd.R_drew)); exact (Kd.R_mono (far7_ (Kd.R_types HOz3.out BKz1.out (by decide)) gbz1 (fun _ hk => hk.2) (.slice Aoz1 t749.length coz1) (.slice Aoz2 t752.length coz2) (.int .i64 t755) (.int .i64 t756) (.int .i64 t757) (.int .i64 t758) (.slice Aoz3 t759.length coz3)) (fun _ h_ => h_.1))) hb); have n6_ := Aside0.mk (blk_below (g := gb723) (o := .cells #[.slice A1_0 l1_0.length c1_0, .slice A1_1 l1_1.length c1_1, .int .i64 a1_2, .int .i64 a1_3, .int .i64 a1_4, .int .i64 a1_5, .slice A1_6 l1_6.length c1_6] 27 (0, 0)) (dF7_ BK723 NB723_764) hb); have n7_ := Aside0.mk (blk_below (g := gb741) (o := .cells #[.slice Ao20 t726.length co20, .slice Ao23 t729.length co23, .int .i64 t732, .int .i64 t733, .int .i64 t734, .int .i64 t735, .slice Ao24 t736.length co24] 27 (0, 0)) (dF7_ BK741 NB741_764) hb); have n8_ := Aside0.mk (blk_below (g := gbz1) (o := .cells #[.slice Aoz1 t749.length coz1, .slice Aoz2 t752.length coz2, .int .i64 t755, .int .i64 t756, .int .i64 t757, .int .i64 t758, .slice Aoz3 t759.length coz3] 27 (0, 0)) (dP7_ BKz1) hb); have n9_ := Aside0.mk (below_step (dL3_ HB GE723 GE741 GEz1) hb); clear HO_742000; clear HO_742001; clear HO_742006; clear HOz1; clear HOz2; clear HOz3; clear BK723; clear BK741; clear BKz1; clear HB; have HO_742000 := n0_; have HO_742001 := n1_; have HO_742006 := n2_; have HOz1 := n3_; have HOz2 := n4_; have HOz3 := n5_; have BK723 := n6_; have BK741 := n7_; have BKz1 := n8_; have HB := n9_; clear n0_ n1_ n2_ n3_ n4_ n5_ n6_ n7_ n8_ n9_; (try clear hb); (try clear hb2); (try clear hk); (try clear hi)) | (go_at_call 16; (with_reducible refine (hinterlandlaw14_known.calls k1  t770 _ A189.out).mono ?_); rintro e wz6 ⟨rfl, hb⟩; have n0_ := Aside0.mk (Kd.R_below (dR_ HO_742000) hb); have n1_ := Aside0.mk (Kd.R_below (dR_ HO_742001) hb); have n2_ := Aside0.mk (Kd.R_below (dR_ HO_742006) hb); have n3_ := Aside0.mk (Kd.R_below (dR_ HOz1) hb); have n4_ := Aside0.mk (Kd.R_below (dR_ HOz2) hb); have n5_ := Aside0.mk (Kd.R_below (dR_ HOz3) hb); have n6_ := Aside0.mk (bb_ BK723 hb); have n7_ := Aside0.mk (bb_ BK741 hb); have n8_ := Aside0.mk (bb_ BKz1 hb); have n9_ := Aside0.mk (below_step (dL3_ HB GE723 GE741 GEz1) hb); clear HO_742000; clear HO_742001; clear HO_742006; clear HOz1; clear HOz2; clear HOz3; clear BK723; clear BK741; clear BKz1; clear HB; have HO_742000 := n0_; have HO_742001 := n1_; have HO_742006 := n2_; have HOz1 := n3_; have HOz2 := n4_; have HOz3 := n5_; have BK723 := n6_; have BK741 := n7_; have BKz1 := n8_; have HB := n9_; clear n0_ n1_ n2_ n3_ n4_ n5_ n6_ n7_ n8_ n9_; (try clear hb); (try clear hb2); (try clear hk); (try clear hi)) | (go_at_call 33; (with_reducible refine (hinterlandsame_Car.calls k1 _ _ t726 _ _ t729 t732 t733 t734 t735 _ _ t736 _ _ t749 _ _ t752 t755 t756 t757 t758 _ _ t759 _ _ ?side1 ?side2 ?side3 ?side4 ?side5 ?side6 ?side7 ?side8 ?side9 ?side10 ?side11 ?side12 A39.out).mono ?_); (case side1 => refine (Kd.R_reads' (e := 3) (base := w.heap.size) (ok := fun k_ => ((some k_ ≠ (.slice Ao23 t729.length co23 : Value).ownBlock ∧ some k_ ≠ (.slice Aoz1 t749.length coz1 : Value).ownBlock) ∧ some k_ ≠ (.slice Aoz2 t752.length coz2 : Value).ownBlock)) (n := t726.length) (c := co20) ?_).2.2; exact (by (with_reducible repeat (first | apply Kd.R_alloc | apply Kd.R_drewN | apply Kd.R_drew)); exact (Kd.R_mono (far7_ (Kd.R_types HO_742000.out BKz1.out (by decide)) gbz1 (fun _ hk => hk.2) (.slice Aoz1 t749.length coz1) (.slice Aoz2 t752.length coz2) (.int .i64 t755) (.int .i64 t756) (.int .i64 t757) (.int .i64 t758) (.slice Aoz3 t759.length coz3)) (fun _ h_ => h_.1)))); (case side2 => exact (Kd.R_reads' HO_742000.out).2.1); (case side3 => refine (Kd.R_reads' (e := 3) (base := w.heap.size) (ok := fun k_ => ((some k_ ≠ (.slice Ao20 t726.length co20 : Value).ownBlock ∧ some k_ ≠ (.slice Aoz1 t749.length coz1 : Value).ownBlock) ∧ some k_ ≠ (.slice Aoz2 t752.length coz2 : Value).ownBlock)) (n := t729.length) (c := co23) ?_).2.2; exact (by (with_reducible repeat (first | apply Kd.R_alloc | apply Kd.R_drewN | apply Kd.R_drew)); exact (Kd.R_mono (far7_ (Kd.R_types HO_742001.out BKz1.out (by decide)) gbz1 (fun _ hk => hk.2) (.slice Aoz1 t749.length coz1) (.slice Aoz2 t752.length coz2) (.int .i64 t755) (.int .i64 t756) (.int .i64 t757) (.int .i64 t758) (.slice Aoz3 t759.length coz3)) (fun _ h_ => h_.1)))); (case side4 => exact (Kd.R_reads' HO_742001.out).2.1); (case side5 => refine (Kd.R_reads' (e := 69) (base := w.heap.size) (ok := fun k_ => (True ∧ some k_ ≠ (.slice Aoz3 t759.length coz3 : Value).ownBlock)) (n := t736.length) (c := co24) ?_).2.2; exact (by (with_reducible repeat (first | apply Kd.R_alloc | apply Kd.R_drewN | apply Kd.R_drew)); exact (Kd.R_mono (far7_ (Kd.R_types HO_742006.out BKz1.out (by decide)) gbz1 (fun _ hk => hk.2) (.slice Aoz1 t749.length coz1) (.slice Aoz2 t752.length coz2) (.int .i64 t755) (.int .i64 t756) (.int .i64 t757) (.int .i64 t758) (.slice Aoz3 t759.length coz3)) (fun _ h_ => h_.1)))); (case side6 => exact (Kd.R_reads' HO_742006.out).2.1); (case side7 => refine (Kd.R_reads' (e := 3) (base := w.heap.size) (ok := fun k_ => ((some k_ ≠ (.slice Aoz2 t752.length coz2 : Value).ownBlock ∧ some k_ ≠ (.slice Ao20 t726.length co20 : Value).ownBlock) ∧ some k_ ≠ (.slice Ao23 t729.length co23 : Value).ownBlock)) (n := t749.length) (c := coz1) ?_).2.2; exact (by (with_reducible repeat (first | apply Kd.R_alloc | apply Kd.R_drewN | apply Kd.R_drew)); exact (Kd.R_mono (far7_ (Kd.R_types HOz1.out BKz1.out (by decide)) gbz1 (fun _ hk => hk.2) (.slice Aoz1 t749.length coz1) (.slice Aoz2 t752.length coz2) (.int .i64 t755) (.int .i64 t756) (.int .i64 t757) (.int .i64 t758) (.slice Aoz3 t759.length coz3)) (fun _ h_ => h_.1)))); (case side8 => exact (Kd.R_reads' HOz1.out).2.1); (case side9 => refine (Kd.R_reads' (e := 3) (base := w.heap.size) (ok := fun k_ => ((some k_ ≠ (.slice Aoz1 t749.length coz1 : Value).ownBlock ∧ some k_ ≠ (.slice Ao20 t726.length co20 : Value).ownBlock) ∧ some k_ ≠ (.slice Ao23 t729.length co23 : Value).ownBlock)) (n := t752.length) (c := coz2) ?_).2.2; exact (by (with_reducible repeat (first | apply Kd.R_alloc | apply Kd.R_drewN | apply Kd.R_drew)); exact (Kd.R_mono (far7_ (Kd.R_types HOz2.out BKz1.out (by decide)) gbz1 (fun _ hk => hk.2) (.slice Aoz1 t749.length coz1) (.slice Aoz2 t752.length coz2) (.int .i64 t755) (.int .i64 t756) (.int .i64 t757) (.int .i64 t758) (.slice Aoz3 t759.length coz3)) (fun _ h_ => h_.1)))); (case side10 => exact (Kd.R_reads' HOz2.out).2.1); (case side11 => refine (Kd.R_reads' (e := 69) (base := w.heap.size) (ok := fun k_ => (True ∧ some k_ ≠ (.slice Ao24 t736.length co24 : Value).ownBlock)) (n := t759.length) (c := coz3) ?_).2.2; exact (by (with_reducible repeat (first | apply Kd.R_alloc | apply Kd.R_drewN | apply Kd.R_drew)); exact (Kd.R_mono (far7_ (Kd.R_types HOz3.out BKz1.out (by decide)) gbz1 (fun _ hk => hk.2) (.slice Aoz1 t749.length coz1) (.slice Aoz2 t752.length coz2) (.int .i64 t755) (.int .i64 t756) (.int .i64 t757) (.int .i64 t758) (.slice Aoz3 t759.length coz3)) (fun _ h_ => h_.1)))); (case side12 => exact (Kd.R_reads' HOz3.out).2.1); rintro e wz5 ⟨rfl, hb⟩; have n0_ := Aside0.mk (Kd.R_below (by (with_reducible repeat (first | apply Kd.R_alloc | apply Kd.R_drewN | apply Kd.R_drew)); exact (Kd.R_mono (far7_ (Kd.R_types HO_742000.out BKz1.out (by decide)) gbz1 (fun _ hk => hk.2) (.slice Aoz1 t749.length coz1) (.slice Aoz2 t752.length coz2) (.int .i64 t755) (.int .i64 t756) (.int .i64 t757) (.int .i64 t758) (.slice Aoz3 t759.length coz3)) (fun _ h_ => h_.1))) hb); have n1_ := Aside0.mk (Kd.R_below (by (with_reducible repeat (first | apply Kd.R_alloc | apply Kd.R_drewN | apply Kd.R_drew)); exact (Kd.R_mono (far7_ (Kd.R_types HO_742001.out BKz1.out (by decide)) gbz1 (fun _ hk => hk.2) (.slice Aoz1 t749.length coz1) (.slice Aoz2 t752.length coz2) (.int .i64 t755) (.int .i64 t756) (.int .i64 t757) (.int .i64 t758) (.slice Aoz3 t759.length coz3)) (fun _ h_ => h_.1))) hb); have n2_ := Aside0.mk (Kd.R_below (by (with_reducible repeat (first | apply Kd.R_alloc | apply Kd.R_drewN | apply Kd.R_drew)); exact (Kd.R_mono (far7_ (Kd.R_types HO_742006.out BKz1.out (by decide)) gbz1 (fun _ hk => hk.2) (.slice Aoz1 t749.length coz1) (.slice Aoz2 t752.length coz2) (.int .i64 t755) (.int .i64 t756) (.int .i64 t757) (.int .i64 t758) (.slice Aoz3 t759.length coz3)) (fun _ h_ => h_.1))) hb); have n3_ := Aside0.mk (Kd.R_below (by (with_reducible repeat (first | apply Kd.R_alloc | apply Kd.R_drewN | apply Kd.R_drew)); exact (Kd.R_mono (far7_ (Kd.R_types HOz1.out BKz1.out (by decide)) gbz1 (fun _ hk => hk.2) (.slice Aoz1 t749.length coz1) (.slice Aoz2 t752.length coz2) (.int .i64 t755) (.int .i64 t756) (.int .i64 t757) (.int .i64 t758) (.slice Aoz3 t759.length coz3)) (fun _ h_ => h_.1))) hb); have n4_ := Aside0.mk (Kd.R_below (by (with_reducible repeat (first | apply Kd.R_alloc | apply Kd.R_drewN | apply Kd.R_drew)); exact (Kd.R_mono (far7_ (Kd.R_types HOz2.out BKz1.out (by decide)) gbz1 (fun _ hk => hk.2) (.slice Aoz1 t749.length coz1) (.slice Aoz2 t752.length coz2) (.int .i64 t755) (.int .i64 t756) (.int .i64 t757) (.int .i64 t758) (.slice Aoz3 t759.length coz3)) (fun _ h_ => h_.1))) hb); have n5_ := Aside0.mk (Kd.R_below (by (with_reducible repeat (first | apply Kd.R_alloc | apply Kd.R_drewN | apply Kd.R_drew)); exact (Kd.R_mono (far7_ (Kd.R_types HOz3.out BKz1.out (by decide)) gbz1 (fun _ hk => hk.2) (.slice Aoz1 t749.length coz1) (.slice Aoz2 t752.length coz2) (.int .i64 t755) (.int .i64 t756) (.int .i64 t757) (.int .i64 t758) (.slice Aoz3 t759.length coz3)) (fun _ h_ => h_.1))) hb); have n6_ := Aside0.mk (blk_below (g := gb723) (o := .cells #[.slice A1_0 l1_0.length c1_0, .slice A1_1 l1_1.length c1_1, .int .i64 a1_2, .int .i64 a1_3, .int .i64 a1_4, .int .i64 a1_5, .slice A1_6 l1_6.length c1_6] 27 (0, 0)) (dF7_ BK723 NB723_764) hb); have n7_ := Aside0.mk (blk_below (g := gb741) (o := .cells #[.slice Ao20 t726.length co20, .slice Ao23 t729.length co23, .int .i64 t732, .int .i64 t733, .int .i64 t734, .int .i64 t735, .slice Ao24 t736.length co24] 27 (0, 0)) (dF7_ BK741 NB741_764) hb); have n8_ := Aside0.mk (blk_below (g := gbz1) (o := .cells #[.slice Aoz1 t749.length coz1, .slice Aoz2 t752.length coz2, .int .i64 t755, .int .i64 t756, .int .i64 t757, .int .i64 t758, .slice Aoz3 t759.length coz3] 27 (0, 0)) (dP7_ BKz1) hb); have n9_ := Aside0.mk (below_step (dL3_ HB GE723 GE741 GEz1) hb); clear HO_742000; clear HO_742001; clear HO_742006; clear HOz1; clear HOz2; clear HOz3; clear BK723; clear BK741; clear BKz1; clear HB; have HO_742000 := n0_; have HO_742001 := n1_; have HO_742006 := n2_; have HOz1 := n3_; have HOz2 := n4_; have HOz3 := n5_; have BK723 := n6_; have BK741 := n7_; have BKz1 := n8_; have HB := n9_; clear n0_ n1_ n2_ n3_ n4_ n5_ n6_ n7_ n8_ n9_; (try clear hb); (try clear hb2); (try clear hk); (try clear hi)) | (go_at_call 16; (with_reducible refine (hinterlandlaw14_known.calls k1  t766 _ A41.out).mono ?_); rintro e wz6 ⟨rfl, hb⟩; have n0_ := Aside0.mk (Kd.R_below (dR_ HO_742000) hb); have n1_ := Aside0.mk (Kd.R_below (dR_ HO_742001) hb); have n2_ := Aside0.mk (Kd.R_below (dR_ HO_742006) hb); have n3_ := Aside0.mk (Kd.R_below (dR_ HOz1) hb); have n4_ := Aside0.mk (Kd.R_below (dR_ HOz2) hb); have n5_ := Aside0.mk (Kd.R_below (dR_ HOz3) hb); have n6_ := Aside0.mk (bb_ BK723 hb); have n7_ := Aside0.mk (bb_ BK741 hb); have n8_ := Aside0.mk (bb_ BKz1 hb); have n9_ := Aside0.mk (below_step (dL3_ HB GE723 GE741 GEz1) hb); clear HO_742000; clear HO_742001; clear HO_742006; clear HOz1; clear HOz2; clear HOz3; clear BK723; clear BK741; clear BKz1; clear HB; have HO_742000 := n0_; have HO_742001 := n1_; have HO_742006 := n2_; have HOz1 := n3_; have HOz2 := n4_; have HOz3 := n5_; have BK723 := n6_; have BK741 := n7_; have BKz1 := n8_; have HB := n9_; clear n0_ n1_ n2_ n3_ n4_ n5_ n6_ n7_ n8_ n9_; (try clear hb); (try clear hb2); (try clear hk); (try clear hi)) | ((with_reducible refine gate_dst (N := 19) rfl ?_); refine box_event ?hg (N := 19) ?hd (cs := #[.slice none 0 0, .slice none 0 0, .int .i64 0, .int .i64 0, .int .i64 0, .int .i64 0, .slice none 0 0]) (t := 27) ?hr ?_; (case hd => rfl); (case hg => rfl); (case hr => first | (go_simp; done) | (go_simp; rfl)); intro gbz1 hg wz4 hbox hb; have n0_ := Aside0.mk (Kd.R_below (dR_ HO_742000) hb); have n1_ := Aside0.mk (Kd.R_below (dR_ HO_742001) hb); have n2_ := Aside0.mk (Kd.R_below (dR_ HO_742006) hb); have n3_ := Aside0.mk (Kd.R_below (dR_ HOz1) hb); have n4_ := Aside0.mk (Kd.R_below (dR_ HOz2) hb); have n5_ := Aside0.mk (Kd.R_below (dR_ HOz3) hb); have n6_ := Aside0.mk (bb_ BK723 hb); have n7_ := Aside0.mk (bb_ BK741 hb); have n8_ := Aside0.mk (below_step (dL2_ HB GE723 GE741) hb); have n9_ := Aside0.mk (hbox); have nz1_ := Aside0.mk ((dS_ hg (dL2_ HB GE723 GE741) : w.heap.size ≤ gbz1)); have nz2_ := Aside0.mk ((dS_ hg (dL2_ HB GE723 GE741) : w.heap.size ≤ gbz1)); have nz3_ := Aside0.mk ((by rw [hg]; exact Nat.ne_of_lt (blk_lt (dB_ BK723)) : gb723 ≠ gbz1)); have nz4_ := Aside0.mk ((by rw [hg]; exact Nat.ne_of_gt (blk_lt (dB_ BK723)) : gbz1 ≠ gb723)); have nz5_ := Aside0.mk ((by rw [hg]; exact Nat.ne_of_lt (blk_lt (dB_ BK741)) : gb741 ≠ gbz1)); have nz6_ := Aside0.mk ((by rw [hg]; exact Nat.ne_of_gt (blk_lt (dB_ BK741)) : gbz1 ≠ gb741)); clear HO_742000; clear HO_742001; clear HO_742006; clear HOz1; clear HOz2; clear HOz3; clear BK723; clear BK741; clear HB; have HO_742000 := n0_; have HO_742001 := n1_; have HO_742006 := n2_; have HOz1 := n3_; have HOz2 := n4_; have HOz3 := n5_; have BK723 := n6_; have BK741 := n7_; have HB := n8_; have BKz1 := n9_; have GWz1 := nz1_; have GEz1 := nz2_; have NB723_764 := nz3_; have NBz1_723 := nz4_; have NB741_764 := nz5_; have NBz1_741 := nz6_; clear n0_ n1_ n2_ n3_ n4_ n5_ n6_ n7_ n8_ n9_ nz1_ nz2_ nz3_ nz4_ nz5_ nz6_; clear hb hbox hg; obtain ⟨Aoz1, coz1, eoz1⟩ := Kd.R_slice HOz1.out; subst eoz1; have hnbz2 := NBz1_723.out; have hncz2 := NB723_764.out; have hnbz3 := NBz1_741.out; have hncz3 := NB741_764.out; obtain ⟨hczz4_0, hczz4_1, hczz4_2, hczz4_3, hczz4_4, hczz4_5, hczz4_6, hfzz4_0, hfzz4_1, hfzz4_2, hfzz4_3, hfzz4_4, hfzz4_5, hfzz4_6⟩ := cs7_ BKz1.out; obtain ⟨Aoz2, coz2, eoz2⟩ := Kd.R_slice HOz2.out; subst eoz2; obtain ⟨Aoz3, coz3, eoz3⟩ := Kd.R_slice HOz3.out; subst eoz3))
      go_ret
      exact ⟨tE_, dL3_ HB GE723 GE741 GEz1⟩)
  ·rw [if_neg c13] at H
   have c13b0 : (t740 == 0) = false := beq_eq_false_iff_ne.mpr c13
   have c13b1 : (t740 != 0) = true := bne_iff_ne.mpr c13
   replace H := Option.bind_eq_some_iff.mp H
   obtain ⟨t742, A2790, H⟩ := H
   replace H : (some t742) = some r := H
   have A279 := Aside0.mk A2790
   clear A2790
   obtain rfl := Option.some.inj H
   go_enter Try.func14, Try.ntmps14
   go_wp2_with (first | ((with_reducible refine gate_dst (N := 5) rfl ?_); refine box_event ?hg (N := 5) ?hd (cs := #[.slice A1_0 l1_0.length c1_0, .slice A1_1 l1_1.length c1_1, .int .i64 a1_2, .int .i64 a1_3, .int .i64 a1_4, .int .i64 a1_5, .slice A1_6 l1_6.length c1_6]) (t := 27) ?hr ?_; (case hd => rfl); (case hg => rfl); (case hr => first | (go_simp; done) | (go_simp; rfl)); intro gb723 hg w280 hbox hb; have n0_ := Aside0.mk (below_step (dL_ HB) hb); have n1_ := Aside0.mk (hbox); have n2_ := Aside0.mk ((dS_ hg (dL_ HB) : w.heap.size ≤ gb723)); have n3_ := Aside0.mk ((dS_ hg (dL_ HB) : w.heap.size ≤ gb723)); clear HB; have HB := n0_; have BK723 := n1_; have GW723 := n2_; have GE723 := n3_; clear n0_ n1_ n2_ n3_; clear hb hbox hg; obtain ⟨hcz281_0, hcz281_1, hcz281_2, hcz281_3, hcz281_4, hcz281_5, hcz281_6, hfz281_0, hfz281_1, hfz281_2, hfz281_3, hfz281_4, hfz281_5, hfz281_6⟩ := cs7_ BK723.out) | ((with_reducible refine gate_callee (f := 15) rfl ?_); refine goesL_ (some 24) rfl rfl Try.func15 (by kernel_rfl) rfl #[.slice A0 l0.length c0, .agg #[.slice A1_0 l1_0.length c1_0, .slice A1_1 l1_1.length c1_1, .int .i64 a1_2, .int .i64 a1_3, .int .i64 a1_4, .int .i64 a1_5, .slice A1_6 l1_6.length c1_6]] rfl tA_ ?_; (with_reducible refine (hinterlandlaw14_large.calls k _ _ l0 _ _ l1_0 _ _ l1_1 a1_2 a1_3 a1_4 a1_5 _ _ l1_6 false _ ?side1 ?side2 ?side3 ?side4 ?side5 ?side6 ?side7 ?side8 A5.out).mono ?_); (case side1 => exact dC_ HR0 HB); (case side2 => exact HC0.out); (case side3 => exact dC_ HR1_0 HB); (case side4 => exact HC1_0.out); (case side5 => exact dC_ HR1_1 HB); (case side6 => exact HC1_1.out); (case side7 => exact dC_ HR1_6 HB); (case side8 => exact HC1_6.out); rintro e w282 ⟨rfl, hb⟩; refine ⟨_, rfl, ?_⟩; have n0_ := Aside0.mk (bb_ BK723 hb); have n1_ := Aside0.mk (below_step (dL1_ HB GE723) hb); clear BK723; clear HB; have BK723 := n0_; have HB := n1_; clear n0_ n1_; (try clear hb); (try clear hb2); (try clear hk); (try clear hi); obtain ⟨hcz283_0, hcz283_1, hcz283_2, hcz283_3, hcz283_4, hcz283_5, hcz283_6, hfz283_0, hfz283_1, hfz283_2, hfz283_3, hfz283_4, hfz283_5, hfz283_6⟩ := cs7_ BK723.out) | ((with_reducible refine gate_callee (f := 36) rfl ?_); refine goesL_ (some 30) rfl rfl Try.func36 (by kernel_rfl) rfl #[.slice A0 l0.length c0, .agg #[.slice A1_0 l1_0.length c1_0, .slice A1_1 l1_1.length c1_1, .int .i64 a1_2, .int .i64 a1_3, .int .i64 a1_4, .int .i64 a1_5, .slice A1_6 l1_6.length c1_6], .int .i64 a2] rfl tA_ ?_; (with_reducible refine (fleet_Refit.calls k _ _ l0 _ _ l1_0 _ _ l1_1 a1_2 a1_3 a1_4 a1_5 _ _ l1_6 a2 t726 t729 t732 t733 t734 t735 t736 t739 t740 _ ?side1 ?side2 ?side3 ?side4 ?side5 ?side6 ?side7 ?side8 A12.out).mono ?_); (case side1 => exact dC_ HR0 HB); (case side2 => exact HC0.out); (case side3 => exact dC_ HR1_0 HB); (case side4 => exact HC1_0.out); (case side5 => exact dC_ HR1_1 HB); (case side6 => exact HC1_1.out); (case side7 => exact dC_ HR1_6 HB); (case side8 => exact HC1_6.out); rintro e w284 ⟨v727, v730, v737, rfl, ho0, ho1, ho2, hb⟩; refine ⟨_, rfl, ?_⟩; have n0_ := Aside0.mk (Kd.R_lower ho0 (below_size (dL1_ HB GE723))); have n1_ := Aside0.mk (Kd.R_lower ho1 (below_size (dL1_ HB GE723))); have n2_ := Aside0.mk (Kd.R_lower ho2 (below_size (dL1_ HB GE723))); have n3_ := Aside0.mk (bb_ BK723 hb); have n4_ := Aside0.mk (below_step (dL1_ HB GE723) hb); clear BK723; clear HB; have HO728 := n0_; have HO731 := n1_; have HO738 := n2_; have BK723 := n3_; have HB := n4_; clear n0_ n1_ n2_ n3_ n4_; (try clear hb); (try clear hb2); (try clear hk); (try clear hi); (try clear ho0); (try clear ho1); (try clear ho2)) | ((with_reducible refine gate_dst (N := 9) rfl ?_); refine box_event ?hg (N := 9) ?hd (cs := #[.slice none 0 0, .slice none 0 0, .int .i64 0, .int .i64 0, .int .i64 0, .int .i64 0, .slice none 0 0]) (t := 27) ?hr ?_; (case hd => rfl); (case hg => rfl); (case hr => first | (go_simp; done) | (go_simp; rfl)); intro gb741 hg w285 hbox hb; have n0_ := Aside0.mk (Kd.R_below (dR_ HO728) hb); have n1_ := Aside0.mk (Kd.R_below (dR_ HO731) hb); have n2_ := Aside0.mk (Kd.R_below (dR_ HO738) hb); have n3_ := Aside0.mk (bb_ BK723 hb); have n4_ := Aside0.mk (below_step (dL1_ HB GE723) hb); have n5_ := Aside0.mk (hbox); have n6_ := Aside0.mk ((dS_ hg (dL1_ HB GE723) : w.heap.size ≤ gb741)); have n7_ := Aside0.mk ((dS_ hg (dL1_ HB GE723) : w.heap.size ≤ gb741)); have n8_ := Aside0.mk ((by rw [hg]; exact Nat.ne_of_lt (blk_lt (dB_ BK723)) : gb723 ≠ gb741)); have n9_ := Aside0.mk ((by rw [hg]; exact Nat.ne_of_gt (blk_lt (dB_ BK723)) : gb741 ≠ gb723)); clear HO728; clear HO731; clear HO738; clear BK723; clear HB; have HO728 := n0_; have HO731 := n1_; have HO738 := n2_; have BK723 := n3_; have HB := n4_; have BK741 := n5_; have GW741 := n6_; have GE741 := n7_; have NB723_741 := n8_; have NB741_723 := n9_; clear n0_ n1_ n2_ n3_ n4_ n5_ n6_ n7_ n8_ n9_; clear hb hbox hg; obtain ⟨Ao286, co286, eo286⟩ := Kd.R_slice HO728.out; subst eo286; have hnb287 := NB741_723.out; have hnc287 := NB723_741.out; obtain ⟨hcz288_0, hcz288_1, hcz288_2, hcz288_3, hcz288_4, hcz288_5, hcz288_6, hfz288_0, hfz288_1, hfz288_2, hfz288_3, hfz288_4, hfz288_5, hfz288_6⟩ := cs7_ BK741.out; obtain ⟨Ao289, co289, eo289⟩ := Kd.R_slice HO731.out; subst eo289; obtain ⟨Ao290, co290, eo290⟩ := Kd.R_slice HO738.out; subst eo290) | ((with_reducible refine gate_callee (f := 16) rfl ?_); refine goesL_ (some 36) rfl rfl Try.func16 (by kernel_rfl) rfl #[] rfl tA_ ?_; (with_reducible refine (hinterlandlaw14_known.calls k  t742 _ A279.out).mono ?_); rintro e w291 ⟨rfl, hb⟩; refine ⟨_, rfl, ?_⟩; have n0_ := Aside0.mk (Kd.R_below (by (with_reducible repeat (first | apply Kd.R_alloc | apply Kd.R_drewN | apply Kd.R_drew)); exact (Kd.R_mono (far7_ (Kd.R_types HO728.out BK741.out (by decide)) gb741 (fun _ hk => hk.2) (.slice Ao286 t726.length co286) (.slice Ao289 t729.length co289) (.int .i64 t732) (.int .i64 t733) (.int .i64 t734) (.int .i64 t735) (.slice Ao290 t736.length co290)) (fun _ h_ => h_.1))) hb); have n1_ := Aside0.mk (Kd.R_below (by (with_reducible repeat (first | apply Kd.R_alloc | apply Kd.R_drewN | apply Kd.R_drew)); exact (Kd.R_mono (far7_ (Kd.R_types HO731.out BK741.out (by decide)) gb741 (fun _ hk => hk.2) (.slice Ao286 t726.length co286) (.slice Ao289 t729.length co289) (.int .i64 t732) (.int .i64 t733) (.int .i64 t734) (.int .i64 t735) (.slice Ao290 t736.length co290)) (fun _ h_ => h_.1))) hb); have n2_ := Aside0.mk (Kd.R_below (by (with_reducible repeat (first | apply Kd.R_alloc | apply Kd.R_drewN | apply Kd.R_drew)); exact (Kd.R_mono (far7_ (Kd.R_types HO738.out BK741.out (by decide)) gb741 (fun _ hk => hk.2) (.slice Ao286 t726.length co286) (.slice Ao289 t729.length co289) (.int .i64 t732) (.int .i64 t733) (.int .i64 t734) (.int .i64 t735) (.slice Ao290 t736.length co290)) (fun _ h_ => h_.1))) hb); have n3_ := Aside0.mk (blk_below (g := gb723) (o := .cells #[.slice A1_0 l1_0.length c1_0, .slice A1_1 l1_1.length c1_1, .int .i64 a1_2, .int .i64 a1_3, .int .i64 a1_4, .int .i64 a1_5, .slice A1_6 l1_6.length c1_6] 27 (0, 0)) (dF7_ BK723 NB723_741) hb); have n4_ := Aside0.mk (blk_below (g := gb741) (o := .cells #[.slice Ao286 t726.length co286, .slice Ao289 t729.length co289, .int .i64 t732, .int .i64 t733, .int .i64 t734, .int .i64 t735, .slice Ao290 t736.length co290] 27 (0, 0)) (dP7_ BK741) hb); have n5_ := Aside0.mk (below_step (dL2_ HB GE723 GE741) hb); clear HO728; clear HO731; clear HO738; clear BK723; clear BK741; clear HB; have HO728 := n0_; have HO731 := n1_; have HO738 := n2_; have BK723 := n3_; have BK741 := n4_; have HB := n5_; clear n0_ n1_ n2_ n3_ n4_ n5_; (try clear hb); (try clear hb2); (try clear hk); (try clear hi)))
   go_ret
   exact ⟨tE_, dL2_ HB GE723 GE741⟩

/-- THE ONE PURE STATEMENT of hinterlandlaw14_FleetRefitsAll. -/
def hinterlandlaw14_FleetRefitsAll.Pure : Prop := ∀ (l0 : List (S54)) (l1_0 : List Int) (l1_1 : List Int) (a1_2 : Int) (a1_3 : Int) (a1_4 : Int) (a1_5 : Int) (l1_6 : List (S69)) (a2 : Int) (a3 : Int), (wRow wT54) l0 → (wRow (wInt .i64)) l1_0 → (wRow (wInt .i64)) l1_1 → (wInt .i64) a1_2 → (wInt .i64) a1_3 → (wInt .i64) a1_4 → (wInt .i64) a1_5 → (wRow wT69) l1_6 → (wInt .i64) a2 → (wInt .i64) a3 → ∃ k, hinterlandlaw14_FleetRefitsAll.f k l0 l1_0 l1_1 a1_2 a1_3 a1_4 a1_5 l1_6 a2 a3 = some true

end Go.Proofs.Ytgnahbjpockdmaa.Q
