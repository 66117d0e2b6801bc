-- PRINTED by print.py out of the translation. Not trusted: Lean checks it.
import Derived.Test.YtgnahbjpockdmaaPrs
import Derived.Test.YtgnahbjpockdmaaQ0
import Derived.Test.YtgnahbjpockdmaaQ3
import Derived.Test.YtgnahbjpockdmaaQ39
import Derived.Test.YtgnahbjpockdmaaQ62
namespace Go.Proofs.Ytgnahbjpockdmaa.Q
open Go.RowKit Go.Proofs.YtgnahbjpockdmaaPrs Go.Proofs.YtgnahbjpockdmaaOwn Go.Proofs.YtgnahbjpockdmaaW.PrintWords Go.Proofs.YtgnahbjpockdmaaW.PrintLast Go.Proofs.YtgnahbjpockdmaaW.PrintMore
attribute [local go_sem] max2_int min2_int max_two min_two max_three min_three max_four min_four   -- for this text's walks alone
set_option linter.unusedVariables false
set_option linter.unusedSimpArgs false

/-! ### fleet_Refit: function 36 -/
mutual
def fleet_Refit.l0 : Nat → List (S54) → Int → Int → List Int → Int → Int → List Int → List Int → Int → Int → Int → Int → List (S69) → List Int → List Int → Int → Int → Int → Int → List (S69) → Option (List Int × List Int × Int × Int × Int × Int × (List (S69)) × Int × Int)
  | 0, _, _, _, _, _, _, _, _, _, _, _, _, _, _, _, _, _, _, _, _ => none
  | k + 1, x0, x2, x11, x34, x35, x36, x698000, x698001, x698002, x698003, x698004, x698005, x698006, x718000, x718001, x718002, x718003, x718004, x718005, x718006 => if x36 < x35 then (if 0 ≤ x36 then (if x36 < (x34.length : Int) then (if 0 ≤ (rd x34 x36) then (if (rd x34 x36) < (x0.length : Int) then (if ((rd_T54 x0 (rd x34 x36)).f7) > 0 then (if x36 < (x698001.length : Int) then (fleet_Refit.j1 k x0 x2 x11 x36 (rd x34 x36) x34 x35 x36 ((rd x698001 x36) != x2) x698000 x698001 x698002 x698003 x698004 x698005 x698006 x718000 x718001 x718002 x718003 x718004 x718005 x718006) else (none)) else (fleet_Refit.j1 k x0 x2 x11 x36 (rd x34 x36) x34 x35 x36 false x698000 x698001 x698002 x698003 x698004 x698005 x698006 x718000 x718001 x718002 x718003 x718004 x718005 x718006)) else (none)) else (none)) else (none)) else (none)) else (some (x718000, x718001, x718002, x718003, x718004, x718005, x718006, x11, 0))
def fleet_Refit.j1 : Nat → List (S54) → Int → Int → Int → Int → List Int → Int → Int → Bool → List Int → List Int → Int → Int → Int → Int → List (S69) → List Int → List Int → Int → Int → Int → Int → List (S69) → Option (List Int × List Int × Int × Int × Int × Int × (List (S69)) × Int × Int)
  | 0, _, _, _, _, _, _, _, _, _, _, _, _, _, _, _, _, _, _, _, _, _, _, _ => none
  | k + 1, x0, x2, x11, x12, x13, x34, x35, x36, x55, x698000, x698001, x698002, x698003, x698004, x698005, x698006, x718000, x718001, x718002, x718003, x718004, x718005, x718006 => if x55 = true then (if 0 ≤ x12 then (if x12 < (x718001.length : Int) then (if 0 ≤ x13 then (if x13 < (x0.length : Int) then (fleet_Refit.l0 k x0 x2 (wrap64 (x11 + (wrap64 (Int.tdiv ((rd_T54 x0 x13).f9) 8)))) x34 x35 (wrap64 (x36 + 1)) x698000 x698001 x698002 x698003 x698004 x698005 x698006 x718000 (x718001.set (x12 : Int).toNat x2) x718002 x718003 x718004 x718005 x718006) else (none)) else (none)) else (none)) else (none)) else (fleet_Refit.l0 k x0 x2 x11 x34 x35 (wrap64 (x36 + 1)) x698000 x698001 x698002 x698003 x698004 x698005 x698006 x718000 x718001 x718002 x718003 x718004 x718005 x718006)
end
def fleet_Refit.f (k : Nat) (l0 : List (S54)) (l1_0 : List Int) (l1_1 : List Int) (a1_2 : Int) (a1_3 : Int) (a1_4 : Int) (a1_5 : Int) (l1_6 : List (S69)) (a2 : Int) : Option (List Int × List Int × Int × Int × Int × Int × (List (S69)) × Int × Int) := (fleet_Validate.f k l0 l1_0 l1_1 a1_2 a1_3 a1_4 a1_5 l1_6).bind fun t699 => (if t699 = 0 then ((fleet_within.f k 0 15 (([a2] : List Int))).bind fun t703 => (if t703 = true then (if (l1_6.length : Int) > 0 then (some (([] : List Int), ([] : List Int), 0, 0, 0, 0, ([] : List (S69)), 0, 13)) else ((fleet_clone.f l1_0 l1_1 a1_2 a1_3 a1_4 a1_5 l1_6).bind fun bt704 => (fleet_Refit.l0 k l0 a2 0 l1_0 (l1_0.length : Int) 0 l1_0 l1_1 a1_2 a1_3 a1_4 a1_5 l1_6 bt704.1 bt704.2.1 bt704.2.2.1 bt704.2.2.2.1 bt704.2.2.2.2.1 bt704.2.2.2.2.2.1 bt704.2.2.2.2.2.2))) else (some (([] : List Int), ([] : List Int), 0, 0, 0, 0, ([] : List (S69)), 0, 1)))) else (some (([] : List Int), ([] : List Int), 0, 0, 0, 0, ([] : List (S69)), 0, t699)))
theorem fleet_Refit.mono_l : ∀ k, (∀ y0 y1 y2 y3 y4 y5 y6 y7 y8 y9 y10 y11 y12 y13 y14 y15 y16 y17 y18 y19, LeO (fleet_Refit.l0 k y0 y1 y2 y3 y4 y5 y6 y7 y8 y9 y10 y11 y12 y13 y14 y15 y16 y17 y18 y19) (fleet_Refit.l0 (k + 1) y0 y1 y2 y3 y4 y5 y6 y7 y8 y9 y10 y11 y12 y13 y14 y15 y16 y17 y18 y19)) ∧ (∀ y0 y1 y2 y3 y4 y5 y6 y7 y8 y9 y10 y11 y12 y13 y14 y15 y16 y17 y18 y19 y20 y21 y22, LeO (fleet_Refit.j1 k y0 y1 y2 y3 y4 y5 y6 y7 y8 y9 y10 y11 y12 y13 y14 y15 y16 y17 y18 y19 y20 y21 y22) (fleet_Refit.j1 (k + 1) y0 y1 y2 y3 y4 y5 y6 y7 y8 y9 y10 y11 y12 y13 y14 y15 y16 y17 y18 y19 y20 y21 y22))
  | 0 => ⟨fun _ _ _ _ _ _ _ _ _ _ _ _ _ _ _ _ _ _ _ _ r h => by simp [fleet_Refit.l0] at h, fun _ _ _ _ _ _ _ _ _ _ _ _ _ _ _ _ _ _ _ _ _ _ _ r h => by simp [fleet_Refit.j1] at h⟩
  | k + 1 => by
    obtain ⟨ih0, ih1⟩ := fleet_Refit.mono_l k
    refine ⟨?_, ?_⟩
    · intro y0 y1 y2 y3 y4 y5 y6 y7 y8 y9 y10 y11 y12 y13 y14 y15 y16 y17 y18 y19
      unfold fleet_Refit.l0
      repeat' first
      | (with_reducible exact ih0 _ _ _ _ _ _ _ _ _ _ _ _ _ _ _ _ _ _ _ _)
      | (with_reducible exact ih1 _ _ _ _ _ _ _ _ _ _ _ _ _ _ _ _ _ _ _ _ _ _ _)
      | (with_reducible exact fleet_Validate.mono _ _ _ _ _ _ _ _ _)
      | (with_reducible exact fleet_within.mono _ _ _ _)
      | (with_reducible exact LeO.refl _)
      | (with_reducible exact LeO.none _)
      | (with_reducible refine LeO.ite ?_ ?_)
      | (with_reducible refine LeO.bind ?_ (fun _ => ?_))
      | exact ih0 _ _ _ _ _ _ _ _ _ _ _ _ _ _ _ _ _ _ _ _
      | exact ih1 _ _ _ _ _ _ _ _ _ _ _ _ _ _ _ _ _ _ _ _ _ _ _
      | exact fleet_Validate.mono _ _ _ _ _ _ _ _ _
      | exact fleet_within.mono _ _ _ _
      | exact LeO.none _
      | refine LeO.ite ?_ ?_
      | refine LeO.bind ?_ (fun _ => ?_)
    · intro y0 y1 y2 y3 y4 y5 y6 y7 y8 y9 y10 y11 y12 y13 y14 y15 y16 y17 y18 y19 y20 y21 y22
      unfold fleet_Refit.j1
      repeat' first
      | (with_reducible exact ih0 _ _ _ _ _ _ _ _ _ _ _ _ _ _ _ _ _ _ _ _)
      | (with_reducible exact ih1 _ _ _ _ _ _ _ _ _ _ _ _ _ _ _ _ _ _ _ _ _ _ _)
      | (with_reducible exact fleet_Validate.mono _ _ _ _ _ _ _ _ _)
      | (with_reducible exact fleet_within.mono _ _ _ _)
      | (with_reducible exact LeO.refl _)
      | (with_reducible exact LeO.none _)
      | (with_reducible refine LeO.ite ?_ ?_)
      | (with_reducible refine LeO.bind ?_ (fun _ => ?_))
      | exact ih0 _ _ _ _ _ _ _ _ _ _ _ _ _ _ _ _ _ _ _ _
      | exact ih1 _ _ _ _ _ _ _ _ _ _ _ _ _ _ _ _ _ _ _ _ _ _ _
      | exact fleet_Validate.mono _ _ _ _ _ _ _ _ _
      | exact fleet_within.mono _ _ _ _
      | exact LeO.none _
      | refine LeO.ite ?_ ?_
      | refine LeO.bind ?_ (fun _ => ?_)
theorem fleet_Refit.mono : ∀ a0 a1 a2 a3 a4 a5 a6 a7 a8 k, LeO (fleet_Refit.f k a0 a1 a2 a3 a4 a5 a6 a7 a8) (fleet_Refit.f (k + 1) a0 a1 a2 a3 a4 a5 a6 a7 a8) := by
  intro a0 a1 a2 a3 a4 a5 a6 a7 a8 k
  obtain ⟨ih0, ih1⟩ := fleet_Refit.mono_l k
  unfold fleet_Refit.f
  repeat' first
      | (with_reducible exact ih0 _ _ _ _ _ _ _ _ _ _ _ _ _ _ _ _ _ _ _ _)
      | (with_reducible exact ih1 _ _ _ _ _ _ _ _ _ _ _ _ _ _ _ _ _ _ _ _ _ _ _)
      | (with_reducible exact fleet_Validate.mono _ _ _ _ _ _ _ _ _)
      | (with_reducible exact fleet_within.mono _ _ _ _)
      | (with_reducible exact LeO.refl _)
      | (with_reducible exact LeO.none _)
      | (with_reducible refine LeO.ite ?_ ?_)
      | (with_reducible refine LeO.bind ?_ (fun _ => ?_))
      | exact ih0 _ _ _ _ _ _ _ _ _ _ _ _ _ _ _ _ _ _ _ _
      | exact ih1 _ _ _ _ _ _ _ _ _ _ _ _ _ _ _ _ _ _ _ _ _ _ _
      | exact fleet_Validate.mono _ _ _ _ _ _ _ _ _
      | exact fleet_within.mono _ _ _ _
      | exact LeO.none _
      | refine LeO.ite ?_ ?_
      | refine LeO.bind ?_ (fun _ => ?_)
set_option maxHeartbeats 8000000 in
set_option maxRecDepth 100000 in
theorem fleet_Refit.calls (k : Nat) (A0 : Option Addr) (c0 : Nat) (l0 : List (S54)) (A1_0 : Option Addr) (c1_0 : Nat) (l1_0 : List Int) (A1_1 : Option Addr) (c1_1 : Nat) (l1_1 : List Int) (a1_2 : Int) (a1_3 : Int) (a1_4 : Int) (a1_5 : Int) (A1_6 : Option Addr) (c1_6 : Nat) (l1_6 : List (S69)) (a2 : Int) (r1 : List Int) (r2 : List Int) (r3 : Int) (r4 : Int) (r5 : Int) (r6 : Int) (r7 : List (S69)) (r8 : Int) (r9 : Int) (w : World) (hr0 : Kd.C k54 w A0 l0.length l0) (hc0 : l0.length ≤ c0) (hr1_0 : Kd.C (Kd.int .i64) w A1_0 l1_0.length l1_0) (hc1_0 : l1_0.length ≤ c1_0) (hr1_1 : Kd.C (Kd.int .i64) w A1_1 l1_1.length l1_1) (hc1_1 : l1_1.length ≤ c1_1) (hr1_6 : Kd.C k69 w A1_6 l1_6.length l1_6) (hc1_6 : l1_6.length ≤ c1_6) (h : fleet_Refit.f k l0 l1_0 l1_1 a1_2 a1_3 a1_4 a1_5 l1_6 a2 = some (r1, r2, r3, r4, r5, r6, r7, r8, r9)) :
    Calls Try.prog 36 #[.slice A0 l0.length c0, .agg #[.slice A1_0 l1_0.length c1_0, .slice A1_1 l1_1.length c1_1, .int .i64 a1_2, .int .i64 a1_3, .int .i64 a1_4, .int .i64 a1_5, .slice A1_6 l1_6.length c1_6], .int .i64 a2] w fun e w' => ∃ v0_ v1_ v6_ : Value, e = .returned (.tuple #[.agg #[v0_, v1_, .int .i64 r3, .int .i64 r4, .int .i64 r5, .int .i64 r6, v6_], .int .i64 r8, .int .i64 r9]) ∧ Kd.R (Kd.int .i64) 3 w' w.heap.size (fun k_ => some k_ ≠ (v1_ : Value).ownBlock) v0_ r1 ∧ Kd.R (Kd.int .i64) 3 w' w.heap.size (fun k_ => some k_ ≠ (v0_ : Value).ownBlock) v1_ r2 ∧ Kd.R k69 69 w' w.heap.size (fun _ => True) v6_ r7 ∧ Below w.heap.size w w' := by
 have hu27 := Try.underlying27
 have HR0 := Aside0.mk hr0
 have HC0 := Aside0.mk hc0
 clear hr0 hc0
 have HR1_0 := Aside0.mk hr1_0
 have HC1_0 := Aside0.mk hc1_0
 clear hr1_0 hc1_0
 have HR1_1 := Aside0.mk hr1_1
 have HC1_1 := Aside0.mk hc1_1
 clear hr1_1 hc1_1
 have HR1_6 := Aside0.mk hr1_6
 have HC1_6 := Aside0.mk hc1_6
 clear hr1_6 hc1_6
 have HB := Aside0.mk (Below.refl w.heap.size w)
 have H : ((fleet_Validate.f k l0 l1_0 l1_1 a1_2 a1_3 a1_4 a1_5 l1_6).bind fun t699 => (if t699 = 0 then ((fleet_within.f k 0 15 (([a2] : List Int))).bind fun t703 => (if t703 = true then (if (l1_6.length : Int) > 0 then (some (([] : List Int), ([] : List Int), 0, 0, 0, 0, ([] : List (S69)), 0, 13)) else ((fleet_clone.f l1_0 l1_1 a1_2 a1_3 a1_4 a1_5 l1_6).bind fun bt704 => (fleet_Refit.l0 k l0 a2 0 l1_0 (l1_0.length : Int) 0 l1_0 l1_1 a1_2 a1_3 a1_4 a1_5 l1_6 bt704.1 bt704.2.1 bt704.2.2.1 bt704.2.2.2.1 bt704.2.2.2.2.1 bt704.2.2.2.2.2.1 bt704.2.2.2.2.2.2))) else (some (([] : List Int), ([] : List Int), 0, 0, 0, 0, ([] : List (S69)), 0, 1)))) else (some (([] : List Int), ([] : List Int), 0, 0, 0, 0, ([] : List (S69)), 0, t699)))) = some (r1, r2, r3, r4, r5, r6, r7, r8, r9) := h
 clear h
 replace H := Option.bind_eq_some_iff.mp H
 obtain ⟨t699, A40, H⟩ := H
 replace H : (if t699 = 0 then ((fleet_within.f k 0 15 (([a2] : List Int))).bind fun t703 => (if t703 = true then (if (l1_6.length : Int) > 0 then (some (([] : List Int), ([] : List Int), 0, 0, 0, 0, ([] : List (S69)), 0, 13)) else ((fleet_clone.f l1_0 l1_1 a1_2 a1_3 a1_4 a1_5 l1_6).bind fun bt704 => (fleet_Refit.l0 k l0 a2 0 l1_0 (l1_0.length : Int) 0 l1_0 l1_1 a1_2 a1_3 a1_4 a1_5 l1_6 bt704.1 bt704.2.1 bt704.2.2.1 bt704.2.2.2.1 bt704.2.2.2.2.1 bt704.2.2.2.2.2.1 bt704.2.2.2.2.2.2))) else (some (([] : List Int), ([] : List Int), 0, 0, 0, 0, ([] : List (S69)), 0, 1)))) else (some (([] : List Int), ([] : List Int), 0, 0, 0, 0, ([] : List (S69)), 0, t699))) = some (r1, r2, r3, r4, r5, r6, r7, r8, r9) := H
 have A4 := Aside0.mk A40
 clear A40
 by_cases c5 : t699 = 0
 ·rw [if_pos c5] at H
  have c5b0 : (t699 == 0) = true := beq_iff_eq.mpr c5
  have c5b1 : (t699 != 0) = false := bne_eq_false_iff_eq.mpr c5
  clear c5
  obtain ⟨y700, hy700⟩ : ∃ y_ : List Int, y_ = (([a2] : List Int)) := ⟨_, rfl⟩
  replace H : ((fleet_within.f k 0 15 y700).bind fun t703 => (if t703 = true then (if (l1_6.length : Int) > 0 then (some (([] : List Int), ([] : List Int), 0, 0, 0, 0, ([] : List (S69)), 0, 13)) else ((fleet_clone.f l1_0 l1_1 a1_2 a1_3 a1_4 a1_5 l1_6).bind fun bt704 => (fleet_Refit.l0 k l0 a2 0 l1_0 (l1_0.length : Int) 0 l1_0 l1_1 a1_2 a1_3 a1_4 a1_5 l1_6 bt704.1 bt704.2.1 bt704.2.2.1 bt704.2.2.2.1 bt704.2.2.2.2.1 bt704.2.2.2.2.2.1 bt704.2.2.2.2.2.2))) else (some (([] : List Int), ([] : List Int), 0, 0, 0, 0, ([] : List (S69)), 0, 1)))) = some (r1, r2, r3, r4, r5, r6, r7, r8, r9) := by first | (rw [hy700]; with_reducible exact H) | (have H2_ := (Option.bind_some _ _).symm.trans H; rw [hy700]; with_reducible exact H2_) | (have H2_ := (Option.bind_some _ _).symm.trans H; with_reducible exact H2_) | with_reducible exact H | (rw [hy700]; exact H) | exact H
  have Ny700 := Aside0.mk hy700
  clear hy700
  replace H := Option.bind_eq_some_iff.mp H
  obtain ⟨t703, A60, H⟩ := H
  replace H : (if t703 = true then (if (l1_6.length : Int) > 0 then (some (([] : List Int), ([] : List Int), 0, 0, 0, 0, ([] : List (S69)), 0, 13)) else ((fleet_clone.f l1_0 l1_1 a1_2 a1_3 a1_4 a1_5 l1_6).bind fun bt704 => (fleet_Refit.l0 k l0 a2 0 l1_0 (l1_0.length : Int) 0 l1_0 l1_1 a1_2 a1_3 a1_4 a1_5 l1_6 bt704.1 bt704.2.1 bt704.2.2.1 bt704.2.2.2.1 bt704.2.2.2.2.1 bt704.2.2.2.2.2.1 bt704.2.2.2.2.2.2))) else (some (([] : List Int), ([] : List Int), 0, 0, 0, 0, ([] : List (S69)), 0, 1))) = some (r1, r2, r3, r4, r5, r6, r7, r8, r9) := H
  have A6 := Aside0.mk A60
  clear A60
  by_cases c7 : t703 = true
  ·subst c7
   have H1 : (if (l1_6.length : Int) > 0 then (some (([] : List Int), ([] : List Int), 0, 0, 0, 0, ([] : List (S69)), 0, 13)) else ((fleet_clone.f l1_0 l1_1 a1_2 a1_3 a1_4 a1_5 l1_6).bind fun bt704 => (fleet_Refit.l0 k l0 a2 0 l1_0 (l1_0.length : Int) 0 l1_0 l1_1 a1_2 a1_3 a1_4 a1_5 l1_6 bt704.1 bt704.2.1 bt704.2.2.1 bt704.2.2.2.1 bt704.2.2.2.2.1 bt704.2.2.2.2.2.1 bt704.2.2.2.2.2.2))) = some (r1, r2, r3, r4, r5, r6, r7, r8, r9) := by rw [if_pos rfl] at H; exact H
   clear H
   have H := H1
   clear H1
   by_cases c8 : (l1_6.length : Int) > 0
   ·rw [if_pos c8] at H
    have c8b0 : decide (0 < (l1_6.length : Int)) = true := decide_eq_true c8
    have c8b1 : decide (0 < l1_6.length) = true := decide_eq_true (by omega)
    clear c8
    simp only [Option.some.injEq, Prod.mk.injEq] at H
    obtain ⟨rfl, rfl, rfl, rfl, rfl, rfl, rfl, rfl, rfl⟩ := H
    go_enter Try.func36, Try.ntmps36
    go_wp2_with (first | ((with_reducible refine gate_dst (N := 4) rfl ?_); refine box_event ?hg (N := 4) ?hd (cs := #[.slice A1_0 l1_0.length c1_0, .slice A1_1 l1_1.length c1_1, .int .i64 a1_2, .int .i64 a1_3, .int .i64 a1_4, .int .i64 a1_5, .slice A1_6 l1_6.length c1_6]) (t := 27) ?hr ?_; (case hd => rfl); (case hg => rfl); (case hr => first | (go_simp; done) | (go_simp; rfl)); intro gb697 hg w9 hbox hb; have n0_ := Aside0.mk (below_step (dL_ HB) hb); have n1_ := Aside0.mk (hbox); have n2_ := Aside0.mk ((dS_ hg (dL_ HB) : w.heap.size ≤ gb697)); have n3_ := Aside0.mk ((dS_ hg (dL_ HB) : w.heap.size ≤ gb697)); clear HB; have HB := n0_; have BK697 := n1_; have GW697 := n2_; have GE697 := n3_; clear n0_ n1_ n2_ n3_; clear hb hbox hg) | ((with_reducible refine gate_dst (N := 6) rfl ?_); refine box_event ?hg (N := 6) ?hd (cs := #[.slice none 0 0, .slice none 0 0, .int .i64 0, .int .i64 0, .int .i64 0, .int .i64 0, .slice none 0 0]) (t := 27) ?hr ?_; (case hd => rfl); (case hg => rfl); (case hr => first | (go_simp; done) | (go_simp; rfl)); intro gb698 hg w10 hbox hb; have n0_ := Aside0.mk (bb_ BK697 hb); have n1_ := Aside0.mk (below_step (dL1_ HB GE697) hb); have n2_ := Aside0.mk (hbox); have n3_ := Aside0.mk ((dS_ hg (dL1_ HB GE697) : w.heap.size ≤ gb698)); have n4_ := Aside0.mk ((dS_ hg (dL1_ HB GE697) : w.heap.size ≤ gb698)); have n5_ := Aside0.mk ((by rw [hg]; exact Nat.ne_of_lt (blk_lt (dB_ BK697)) : gb697 ≠ gb698)); have n6_ := Aside0.mk ((by rw [hg]; exact Nat.ne_of_gt (blk_lt (dB_ BK697)) : gb698 ≠ gb697)); clear BK697; clear HB; have BK697 := n0_; have HB := n1_; have BK698 := n2_; have GW698 := n3_; have GE698 := n4_; have NB697_698 := n5_; have NB698_697 := n6_; clear n0_ n1_ n2_ n3_ n4_ n5_ n6_; clear hb hbox hg; have hnb11 := NB697_698.out; have hnc11 := NB698_697.out; obtain ⟨hcz12_0, hcz12_1, hcz12_2, hcz12_3, hcz12_4, hcz12_5, hcz12_6, hfz12_0, hfz12_1, hfz12_2, hfz12_3, hfz12_4, hfz12_5, hfz12_6⟩ := cs7_ BK697.out) | ((with_reducible refine gate_callee (f := 25) rfl ?_); refine goesL_ (some 16) rfl rfl Try.func25 (by kernel_rfl) rfl #[.slice A0 l0.length c0, .agg #[.slice A1_0 l1_0.length c1_0, .slice A1_1 l1_1.length c1_1, .int .i64 a1_2, .int .i64 a1_3, .int .i64 a1_4, .int .i64 a1_5, .slice A1_6 l1_6.length c1_6]] rfl tA_ ?_; (with_reducible refine (fleet_Validate.calls k _ _ l0 _ _ l1_0 _ _ l1_1 a1_2 a1_3 a1_4 a1_5 _ _ l1_6 t699 _ ?side1 ?side2 ?side3 ?side4 ?side5 ?side6 ?side7 ?side8 A4.out).mono ?_); (case side1 => exact dC_ HR0 HB); (case side2 => exact HC0.out); (case side3 => exact dC_ HR1_0 HB); (case side4 => exact HC1_0.out); (case side5 => exact dC_ HR1_1 HB); (case side6 => exact HC1_1.out); (case side7 => exact dC_ HR1_6 HB); (case side8 => exact HC1_6.out); rintro e w13 ⟨rfl, hb⟩; refine ⟨_, rfl, ?_⟩; have n0_ := Aside0.mk (bb_ BK697 hb); have n1_ := Aside0.mk (bb_ BK698 hb); have n2_ := Aside0.mk (below_step (dL2_ HB GE697 GE698) hb); clear BK697; clear BK698; clear HB; have BK697 := n0_; have BK698 := n1_; have HB := n2_; clear n0_ n1_ n2_; (try clear hb); (try clear hb2); (try clear hk); (try clear hi)) | ((with_reducible refine gate_dst (N := 22) rfl ?_); refine Kd.R_lit (Kd.int .i64) _ 3 ?hg (N := 22) ?hd (xs := ([a2] : List Int)) (inner := [.int .i64 a2]) (ok := fun _ => True) (okp := fun _ => True) ?hr ?hp (fun _ hk => hk) trivial (Below.refl _ _) (Nat.le_refl _) (by simp) ?_; (case hd => rfl); (case hg => rfl); (case hr => first | (go_simp; done) | (go_simp; rfl)); (case hp => exact (Reps.one (show Kd.M (Kd.int .i64) _ _ _ a2 [.int .i64 a2] from rfl) (Reps.none _ _))); intro v701 w14 ho15 hb hg_ hnew_; clear hg_ hnew_; (first | rw [← Ny700.out] at ho15 | (simp only [Int.reduceToNat] at ho15; rw [← Ny700.out] at ho15)); have n0_ := Aside0.mk (Kd.R_lower ho15 (below_size (dL2_ HB GE697 GE698))); have n1_ := Aside0.mk (bb_ BK697 hb); have n2_ := Aside0.mk (bb_ BK698 hb); have n3_ := Aside0.mk (below_step (dL2_ HB GE697 GE698) hb); clear BK697; clear BK698; clear HB; have HO702 := n0_; have BK697 := n1_; have BK698 := n2_; have HB := n3_; clear n0_ n1_ n2_ n3_; clear hb ho15; obtain ⟨Ao16, co16, eo16⟩ := Kd.R_slice HO702.out; subst eo16) | ((with_reducible refine gate_callee (f := 41) rfl ?_); refine goesL_ (some 23) rfl rfl Try.func41 (by kernel_rfl) rfl #[.int .i64 0, .int .i64 15, .slice Ao16 y700.length co16] rfl tA_ ?_; (with_reducible refine (fleet_within.calls k 0 15 _ _ y700 true _ ?side1 ?side2 A6.out).mono ?_); (case side1 => repeat (first | exact (Kd.R_reads' HO702.out).2.2 | (with_reducible refine Kd.C_alloc ?_ _) | (with_reducible refine Kd.C_drewN ?_ _) | (with_reducible refine Kd.C_drew ?_))); (case side2 => exact (Kd.R_reads' HO702.out).2.1); rintro e w' ⟨rfl, ⟨nd, rfl⟩⟩; refine ⟨_, rfl, ?_⟩; (try (rw [drewN_self w14]; generalize hq_ : World.drewN w14 _ = w14; have n0_ : Aside0 (Kd.R (Kd.int .i64) 3 w14 w.heap.size (fun _ => True) (.slice Ao16 y700.length co16) y700) := ⟨by rw [← hq_]; exact (dR_ HO702)⟩; have n1_ : Aside0 (w14.heap[gb697]? = some (.cells #[.slice A1_0 l1_0.length c1_0, .slice A1_1 l1_1.length c1_1, .int .i64 a1_2, .int .i64 a1_3, .int .i64 a1_4, .int .i64 a1_5, .slice A1_6 l1_6.length c1_6] 27 (0, 0))) := ⟨by rw [← hq_]; exact (dB_ BK697)⟩; have n2_ : Aside0 (w14.heap[gb698]? = some (.cells #[.slice none 0 0, .slice none 0 0, .int .i64 0, .int .i64 0, .int .i64 0, .int .i64 0, .slice none 0 0] 27 (0, 0))) := ⟨by rw [← hq_]; exact (dB_ BK698)⟩; have n3_ : Aside0 (Below w.heap.size w w14) := ⟨by rw [← hq_]; exact (dL2_ HB GE697 GE698)⟩; clear HO702 BK697 BK698 HB hq_; have HO702 := n0_; have BK697 := n1_; have BK698 := n2_; have HB := n3_; clear n0_ n1_ n2_ n3_)); obtain ⟨hcz17_0, hcz17_1, hcz17_2, hcz17_3, hcz17_4, hcz17_5, hcz17_6, hfz17_0, hfz17_1, hfz17_2, hfz17_3, hfz17_4, hfz17_5, hfz17_6⟩ := cs7_ BK697.out; obtain ⟨hcz18_0, hcz18_1, hcz18_2, hcz18_3, hcz18_4, hcz18_5, hcz18_6, hfz18_0, hfz18_1, hfz18_2, hfz18_3, hfz18_4, hfz18_5, hfz18_6⟩ := cs7_ BK698.out))
    refine bodyPost_ret (results_ctt rfl _ _ gb698 27 #[.slice none 0 0, .slice none 0 0, .int .i64 0, .int .i64 0, .int .i64 0, .int .i64 0, .slice none 0 0] (0, 0) _ rfl (dP7_ BK698) Try.underlying27 rfl (by kernel_rfl)) rfl ?_
    exact ⟨_, _, _, tE_, by first | exact Kd.R_nil _ _ _ _ _ | exact Kd.N_nil _ _ _ _ _ | exact Kd.V_nil _ _ _ _ _ | exact Kd.Q_nil _ _ _ _ _ | exact Kd.S_nil _ _ _ _ _, by first | exact Kd.R_nil _ _ _ _ _ | exact Kd.N_nil _ _ _ _ _ | exact Kd.V_nil _ _ _ _ _ | exact Kd.Q_nil _ _ _ _ _ | exact Kd.S_nil _ _ _ _ _, by first | exact Kd.R_nil _ _ _ _ _ | exact Kd.N_nil _ _ _ _ _ | exact Kd.V_nil _ _ _ _ _ | exact Kd.Q_nil _ _ _ _ _ | exact Kd.S_nil _ _ _ _ _, dL2_ HB GE697 GE698⟩
   ·rw [if_neg c8] at H
    have c8b0 : decide (0 < (l1_6.length : Int)) = false := decide_eq_false c8
    have c8b1 : decide (0 < l1_6.length) = false := decide_eq_false (by omega)
    clear c8
    replace H := Option.bind_eq_some_iff.mp H
    obtain ⟨⟨t704, t707, t710, t711, t712, t713, t714⟩, A190, H⟩ := H
    replace H : (fleet_Refit.l0 k l0 a2 0 l1_0 (l1_0.length : Int) 0 l1_0 l1_1 a1_2 a1_3 a1_4 a1_5 l1_6 t704 t707 t710 t711 t712 t713 t714) = some (r1, r2, r3, r4, r5, r6, r7, r8, r9) := H
    have A19 := Aside0.mk A190
    clear A190
    have H' := Aside0.mk H
    clear H
    go_enter Try.func36, Try.ntmps36
    go_wp2_with (first | ((with_reducible refine gate_dst (N := 4) rfl ?_); refine box_event ?hg (N := 4) ?hd (cs := #[.slice A1_0 l1_0.length c1_0, .slice A1_1 l1_1.length c1_1, .int .i64 a1_2, .int .i64 a1_3, .int .i64 a1_4, .int .i64 a1_5, .slice A1_6 l1_6.length c1_6]) (t := 27) ?hr ?_; (case hd => rfl); (case hg => rfl); (case hr => first | (go_simp; done) | (go_simp; rfl)); intro gb697 hg w20 hbox hb; have n0_ := Aside0.mk (below_step (dL_ HB) hb); have n1_ := Aside0.mk (hbox); have n2_ := Aside0.mk ((dS_ hg (dL_ HB) : w.heap.size ≤ gb697)); have n3_ := Aside0.mk ((dS_ hg (dL_ HB) : w.heap.size ≤ gb697)); clear HB; have HB := n0_; have BK697 := n1_; have GW697 := n2_; have GE697 := n3_; clear n0_ n1_ n2_ n3_; clear hb hbox hg) | ((with_reducible refine gate_dst (N := 6) rfl ?_); refine box_event ?hg (N := 6) ?hd (cs := #[.slice none 0 0, .slice none 0 0, .int .i64 0, .int .i64 0, .int .i64 0, .int .i64 0, .slice none 0 0]) (t := 27) ?hr ?_; (case hd => rfl); (case hg => rfl); (case hr => first | (go_simp; done) | (go_simp; rfl)); intro gb698 hg w21 hbox hb; have n0_ := Aside0.mk (bb_ BK697 hb); have n1_ := Aside0.mk (below_step (dL1_ HB GE697) hb); have n2_ := Aside0.mk (hbox); have n3_ := Aside0.mk ((dS_ hg (dL1_ HB GE697) : w.heap.size ≤ gb698)); have n4_ := Aside0.mk ((dS_ hg (dL1_ HB GE697) : w.heap.size ≤ gb698)); have n5_ := Aside0.mk ((by rw [hg]; exact Nat.ne_of_lt (blk_lt (dB_ BK697)) : gb697 ≠ gb698)); have n6_ := Aside0.mk ((by rw [hg]; exact Nat.ne_of_gt (blk_lt (dB_ BK697)) : gb698 ≠ gb697)); clear BK697; clear HB; have BK697 := n0_; have HB := n1_; have BK698 := n2_; have GW698 := n3_; have GE698 := n4_; have NB697_698 := n5_; have NB698_697 := n6_; clear n0_ n1_ n2_ n3_ n4_ n5_ n6_; clear hb hbox hg; have hnb22 := NB697_698.out; have hnc22 := NB698_697.out; obtain ⟨hcz23_0, hcz23_1, hcz23_2, hcz23_3, hcz23_4, hcz23_5, hcz23_6, hfz23_0, hfz23_1, hfz23_2, hfz23_3, hfz23_4, hfz23_5, hfz23_6⟩ := cs7_ BK697.out) | ((with_reducible refine gate_callee (f := 25) rfl ?_); refine goesL_ (some 16) rfl rfl Try.func25 (by kernel_rfl) rfl #[.slice A0 l0.length c0, .agg #[.slice A1_0 l1_0.length c1_0, .slice A1_1 l1_1.length c1_1, .int .i64 a1_2, .int .i64 a1_3, .int .i64 a1_4, .int .i64 a1_5, .slice A1_6 l1_6.length c1_6]] rfl tA_ ?_; (with_reducible refine (fleet_Validate.calls k _ _ l0 _ _ l1_0 _ _ l1_1 a1_2 a1_3 a1_4 a1_5 _ _ l1_6 t699 _ ?side1 ?side2 ?side3 ?side4 ?side5 ?side6 ?side7 ?side8 A4.out).mono ?_); (case side1 => exact dC_ HR0 HB); (case side2 => exact HC0.out); (case side3 => exact dC_ HR1_0 HB); (case side4 => exact HC1_0.out); (case side5 => exact dC_ HR1_1 HB); (case side6 => exact HC1_1.out); (case side7 => exact dC_ HR1_6 HB); (case side8 => exact HC1_6.out); rintro e w24 ⟨rfl, hb⟩; refine ⟨_, rfl, ?_⟩; have n0_ := Aside0.mk (bb_ BK697 hb); have n1_ := Aside0.mk (bb_ BK698 hb); have n2_ := Aside0.mk (below_step (dL2_ HB GE697 GE698) hb); clear BK697; clear BK698; clear HB; have BK697 := n0_; have BK698 := n1_; have HB := n2_; clear n0_ n1_ n2_; (try clear hb); (try clear hb2); (try clear hk); (try clear hi)) | ((with_reducible refine gate_dst (N := 22) rfl ?_); refine Kd.R_lit (Kd.int .i64) _ 3 ?hg (N := 22) ?hd (xs := ([a2] : List Int)) (inner := [.int .i64 a2]) (ok := fun _ => True) (okp := fun _ => True) ?hr ?hp (fun _ hk => hk) trivial (Below.refl _ _) (Nat.le_refl _) (by simp) ?_; (case hd => rfl); (case hg => rfl); (case hr => first | (go_simp; done) | (go_simp; rfl)); (case hp => exact (Reps.one (show Kd.M (Kd.int .i64) _ _ _ a2 [.int .i64 a2] from rfl) (Reps.none _ _))); intro v701 w25 ho26 hb hg_ hnew_; clear hg_ hnew_; (first | rw [← Ny700.out] at ho26 | (simp only [Int.reduceToNat] at ho26; rw [← Ny700.out] at ho26)); have n0_ := Aside0.mk (Kd.R_lower ho26 (below_size (dL2_ HB GE697 GE698))); have n1_ := Aside0.mk (bb_ BK697 hb); have n2_ := Aside0.mk (bb_ BK698 hb); have n3_ := Aside0.mk (below_step (dL2_ HB GE697 GE698) hb); clear BK697; clear BK698; clear HB; have HO702 := n0_; have BK697 := n1_; have BK698 := n2_; have HB := n3_; clear n0_ n1_ n2_ n3_; clear hb ho26; obtain ⟨Ao27, co27, eo27⟩ := Kd.R_slice HO702.out; subst eo27) | ((with_reducible refine gate_callee (f := 41) rfl ?_); refine goesL_ (some 23) rfl rfl Try.func41 (by kernel_rfl) rfl #[.int .i64 0, .int .i64 15, .slice Ao27 y700.length co27] rfl tA_ ?_; (with_reducible refine (fleet_within.calls k 0 15 _ _ y700 true _ ?side1 ?side2 A6.out).mono ?_); (case side1 => repeat (first | exact (Kd.R_reads' HO702.out).2.2 | (with_reducible refine Kd.C_alloc ?_ _) | (with_reducible refine Kd.C_drewN ?_ _) | (with_reducible refine Kd.C_drew ?_))); (case side2 => exact (Kd.R_reads' HO702.out).2.1); rintro e w' ⟨rfl, ⟨nd, rfl⟩⟩; refine ⟨_, rfl, ?_⟩; (try (rw [drewN_self w25]; generalize hq_ : World.drewN w25 _ = w25; have n0_ : Aside0 (Kd.R (Kd.int .i64) 3 w25 w.heap.size (fun _ => True) (.slice Ao27 y700.length co27) y700) := ⟨by rw [← hq_]; exact (dR_ HO702)⟩; have n1_ : Aside0 (w25.heap[gb697]? = some (.cells #[.slice A1_0 l1_0.length c1_0, .slice A1_1 l1_1.length c1_1, .int .i64 a1_2, .int .i64 a1_3, .int .i64 a1_4, .int .i64 a1_5, .slice A1_6 l1_6.length c1_6] 27 (0, 0))) := ⟨by rw [← hq_]; exact (dB_ BK697)⟩; have n2_ : Aside0 (w25.heap[gb698]? = some (.cells #[.slice none 0 0, .slice none 0 0, .int .i64 0, .int .i64 0, .int .i64 0, .int .i64 0, .slice none 0 0] 27 (0, 0))) := ⟨by rw [← hq_]; exact (dB_ BK698)⟩; have n3_ : Aside0 (Below w.heap.size w w25) := ⟨by rw [← hq_]; exact (dL2_ HB GE697 GE698)⟩; clear HO702 BK697 BK698 HB hq_; have HO702 := n0_; have BK697 := n1_; have BK698 := n2_; have HB := n3_; clear n0_ n1_ n2_ n3_)); obtain ⟨hcz28_0, hcz28_1, hcz28_2, hcz28_3, hcz28_4, hcz28_5, hcz28_6, hfz28_0, hfz28_1, hfz28_2, hfz28_3, hfz28_4, hfz28_5, hfz28_6⟩ := cs7_ BK697.out) | ((with_reducible refine gate_callee (f := 54) rfl ?_); refine goesL_ (some 32) rfl rfl Try.func54 (by kernel_rfl) rfl #[.agg #[.slice A1_0 l1_0.length c1_0, .slice A1_1 l1_1.length c1_1, .int .i64 a1_2, .int .i64 a1_3, .int .i64 a1_4, .int .i64 a1_5, .slice A1_6 l1_6.length c1_6]] rfl tA_ ?_; (with_reducible refine (fleet_clone.calls _ _ l1_0 _ _ l1_1 a1_2 a1_3 a1_4 a1_5 _ _ l1_6 t704 t707 t710 t711 t712 t713 t714 _ ?side1 ?side2 ?side3 ?side4 ?side5 ?side6 A19.out).mono ?_); (case side1 => exact dC_ HR1_0 HB); (case side2 => exact HC1_0.out); (case side3 => exact dC_ HR1_1 HB); (case side4 => exact HC1_1.out); (case side5 => exact dC_ HR1_6 HB); (case side6 => exact HC1_6.out); rintro e w29 ⟨v705, v708, v715, rfl, ho0, ho1, ho2, hb⟩; refine ⟨_, rfl, ?_⟩; have n0_ := Aside0.mk (Kd.R_mono (Kd.R_told (Kd.R_told (Kd.R_old (dR_ HO702) hb) (Kd.R_base ho0)) (Kd.R_base ho1)) (fun _ h_ => h_.1)); have n1_ := Aside0.mk (Kd.R_lower (Kd.R_new' ho0 (Kd.R_lt (dR_ HO702))) (below_size (dL2_ HB GE697 GE698))); have n2_ := Aside0.mk (Kd.R_lower (Kd.R_new' ho1 (Kd.R_lt (dR_ HO702))) (below_size (dL2_ HB GE697 GE698))); have n3_ := Aside0.mk (Kd.R_lower ho2 (below_size (dL2_ HB GE697 GE698))); have n4_ := Aside0.mk (bb_ BK697 hb); have n5_ := Aside0.mk (bb_ BK698 hb); have n6_ := Aside0.mk (below_step (dL2_ HB GE697 GE698) hb); clear HO702; clear BK697; clear BK698; clear HB; have HO702 := n0_; have HO706 := n1_; have HO709 := n2_; have HO716 := n3_; have BK697 := n4_; have BK698 := n5_; have HB := n6_; clear n0_ n1_ n2_ n3_ n4_ n5_ n6_; (try clear hb); (try clear hb2); (try clear hk); (try clear hi); (try clear ho0); (try clear ho1); (try clear ho2)) | ((with_reducible refine gate_dst (N := 10) rfl ?_); refine box_event ?hg (N := 10) ?hd (cs := #[.slice none 0 0, .slice none 0 0, .int .i64 0, .int .i64 0, .int .i64 0, .int .i64 0, .slice none 0 0]) (t := 27) ?hr ?_; (case hd => rfl); (case hg => rfl); (case hr => first | (go_simp; done) | (go_simp; rfl)); intro gb717 hg w30 hbox hb; have n0_ := Aside0.mk (Kd.R_below (dR_ HO702) hb); have n1_ := Aside0.mk (Kd.R_below (dR_ HO706) hb); have n2_ := Aside0.mk (Kd.R_below (dR_ HO709) hb); have n3_ := Aside0.mk (Kd.R_below (dR_ HO716) hb); have n4_ := Aside0.mk (bb_ BK697 hb); have n5_ := Aside0.mk (bb_ BK698 hb); have n6_ := Aside0.mk (below_step (dL2_ HB GE697 GE698) hb); have n7_ := Aside0.mk (hbox); have n8_ := Aside0.mk ((dS_ hg (dL2_ HB GE697 GE698) : w.heap.size ≤ gb717)); have n9_ := Aside0.mk ((dS_ hg (dL2_ HB GE697 GE698) : w.heap.size ≤ gb717)); have n10_ := Aside0.mk ((by rw [hg]; exact Nat.ne_of_lt (blk_lt (dB_ BK697)) : gb697 ≠ gb717)); have n11_ := Aside0.mk ((by rw [hg]; exact Nat.ne_of_gt (blk_lt (dB_ BK697)) : gb717 ≠ gb697)); have n12_ := Aside0.mk ((by rw [hg]; exact Nat.ne_of_lt (blk_lt (dB_ BK698)) : gb698 ≠ gb717)); have n13_ := Aside0.mk ((by rw [hg]; exact Nat.ne_of_gt (blk_lt (dB_ BK698)) : gb717 ≠ gb698)); clear HO702; clear HO706; clear HO709; clear HO716; clear BK697; clear BK698; clear HB; have HO702 := n0_; have HO706 := n1_; have HO709 := n2_; have HO716 := n3_; have BK697 := n4_; have BK698 := n5_; have HB := n6_; have BK717 := n7_; have GW717 := n8_; have GE717 := n9_; have NB697_717 := n10_; have NB717_697 := n11_; have NB698_717 := n12_; have NB717_698 := n13_; clear n0_ n1_ n2_ n3_ n4_ n5_ n6_ n7_ n8_ n9_ n10_ n11_ n12_ n13_; clear hb hbox hg; obtain ⟨Ao31, co31, eo31⟩ := Kd.R_slice HO706.out; subst eo31; have hnb32 := NB717_697.out; have hnc32 := NB697_717.out; have hnb33 := NB717_698.out; have hnc33 := NB698_717.out; obtain ⟨hcz34_0, hcz34_1, hcz34_2, hcz34_3, hcz34_4, hcz34_5, hcz34_6, hfz34_0, hfz34_1, hfz34_2, hfz34_3, hfz34_4, hfz34_5, hfz34_6⟩ := cs7_ BK717.out; obtain ⟨Ao35, co35, eo35⟩ := Kd.R_slice HO709.out; subst eo35; obtain ⟨Ao36, co36, eo36⟩ := Kd.R_slice HO716.out; subst eo36; obtain ⟨hcz37_0, hcz37_1, hcz37_2, hcz37_3, hcz37_4, hcz37_5, hcz37_6, hfz37_0, hfz37_1, hfz37_2, hfz37_3, hfz37_4, hfz37_5, hfz37_6⟩ := cs7_ BK697.out))
    go_loopg [11, 36] k (fun kq v11 v36 w' => ∃ (x11_1 : Int) (x36_1 : Int) (x718000_1 : List Int) (x718001_1 : List Int) (u718000 : Value) (u718001 : Value), v11 = .int .i64 x11_1 ∧ v36 = .int .i64 x36_1 ∧ Aside0 (fleet_Refit.l0 kq l0 a2 x11_1 l1_0 (l1_0.length : Int) x36_1 l1_0 l1_1 a1_2 a1_3 a1_4 a1_5 l1_6 x718000_1 x718001_1 t710 t711 t712 t713 t714 = some (r1, r2, r3, r4, r5, r6, r7, r8, r9)) ∧ Aside0 (kq ≤ k) ∧ Aside0 (Kd.R (Kd.int .i64) 3 w' w.heap.size (fun k_ => some k_ ≠ (u718001 : Value).ownBlock) u718000 x718000_1) ∧ Aside0 (Kd.R (Kd.int .i64) 3 w' w.heap.size (fun k_ => some k_ ≠ (u718000 : Value).ownBlock) u718001 x718001_1) ∧ Aside0 (Kd.R k69 69 w' w.heap.size (fun _ => True) (.slice Ao36 t714.length co36) t714) ∧ Aside0 (w'.heap[gb697]? = some (.cells #[(.slice A1_0 l1_0.length c1_0), (.slice A1_1 l1_1.length c1_1), .int .i64 a1_2, .int .i64 a1_3, .int .i64 a1_4, .int .i64 a1_5, (.slice A1_6 l1_6.length c1_6)] 27 (0, 0))) ∧ Aside0 (w'.heap[gb698]? = some (.cells #[(.slice none 0 0), (.slice none 0 0), .int .i64 0, .int .i64 0, .int .i64 0, .int .i64 0, (.slice none 0 0)] 27 (0, 0))) ∧ Aside0 (w'.heap[gb717]? = some (.cells #[u718000, u718001, .int .i64 t710, .int .i64 t711, .int .i64 t712, .int .i64 t713, (.slice Ao36 t714.length co36)] 27 (0, 0))) ∧ Aside0 (Below w.heap.size w w'))
    case atStart => exact ⟨(0), (0), (t704), (t707), (.slice Ao31 t704.length co31), (.slice Ao35 t707.length co35), tS_, tS_, H', ⟨Nat.le_refl _⟩, ⟨by (with_reducible repeat (first | apply Kd.R_alloc | apply Kd.R_drewN | apply Kd.R_drew)); exact Kd.R_mono (far7_ (Kd.R_types HO706.out BK717.out (by decide)) gb717 (fun _ hk => hk.2) (.slice Ao31 t704.length co31) (.slice Ao35 t707.length co35) (.int .i64 t710) (.int .i64 t711) (.int .i64 t712) (.int .i64 t713) (.slice Ao36 t714.length co36)) (fun _ hk => hk.1.1)⟩, ⟨by (with_reducible repeat (first | apply Kd.R_alloc | apply Kd.R_drewN | apply Kd.R_drew)); exact Kd.R_mono (far7_ (Kd.R_types HO709.out BK717.out (by decide)) gb717 (fun _ hk => hk.2) (.slice Ao31 t704.length co31) (.slice Ao35 t707.length co35) (.int .i64 t710) (.int .i64 t711) (.int .i64 t712) (.int .i64 t713) (.slice Ao36 t714.length co36)) (fun _ hk => hk.1.1)⟩, ⟨by (with_reducible repeat (first | apply Kd.R_alloc | apply Kd.R_drewN | apply Kd.R_drew)); exact Kd.R_mono (far7_ (Kd.R_types HO716.out BK717.out (by decide)) gb717 (fun _ hk => hk.2) (.slice Ao31 t704.length co31) (.slice Ao35 t707.length co35) (.int .i64 t710) (.int .i64 t711) (.int .i64 t712) (.int .i64 t713) (.slice Ao36 t714.length co36)) (fun _ hk => trivial)⟩, ⟨dF7_ BK697 NB697_717⟩, ⟨dF7_ BK698 NB698_717⟩, ⟨dP7_ BK717⟩, ⟨dL3_ HB GE697 GE698 GE717⟩⟩
    case round =>
     clear H'
     try clear c5
     try clear c5b0
     try clear c5b1
     try clear c7
     try clear c8
     try clear c8b0
     try clear c8b1
     try clear hcz23_0
     try clear hcz23_1
     try clear hcz23_2
     try clear hcz23_3
     try clear hcz23_4
     try clear hcz23_5
     try clear hcz23_6
     try clear hcz28_0
     try clear hcz28_1
     try clear hcz28_2
     try clear hcz28_3
     try clear hcz28_4
     try clear hcz28_5
     try clear hcz28_6
     try clear hcz34_0
     try clear hcz34_1
     try clear hcz34_2
     try clear hcz34_3
     try clear hcz34_4
     try clear hcz34_5
     try clear hcz34_6
     try clear hcz37_0
     try clear hcz37_1
     try clear hcz37_2
     try clear hcz37_3
     try clear hcz37_4
     try clear hcz37_5
     try clear hcz37_6
     try clear hfz23_0
     try clear hfz23_1
     try clear hfz23_2
     try clear hfz23_3
     try clear hfz23_4
     try clear hfz23_5
     try clear hfz23_6
     try clear hfz28_0
     try clear hfz28_1
     try clear hfz28_2
     try clear hfz28_3
     try clear hfz28_4
     try clear hfz28_5
     try clear hfz28_6
     try clear hfz34_0
     try clear hfz34_1
     try clear hfz34_2
     try clear hfz34_3
     try clear hfz34_4
     try clear hfz34_5
     try clear hfz34_6
     try clear hfz37_0
     try clear hfz37_1
     try clear hfz37_2
     try clear hfz37_3
     try clear hfz37_4
     try clear hfz37_5
     try clear hfz37_6
     obtain ⟨x11_1, x36_1, x718000_1, x718001_1, u718000, u718001, rfl, rfl, HA, HK1, HO_718000, HO_718001, HO_718006, BK697, BK698, BK717, HB⟩ := hrel
     cases gk with
     | zero => exact absurd HA.out (by simp [fleet_Refit.l0])
     | succ k1 =>
      have H := HA.out
      clear HA
      simp only [fleet_Refit.l0] at H
      by_cases c38 : x36_1 < (l1_0.length : Int)
      ·rw [if_pos c38] at H
       have c38b0 : decide (x36_1 < (l1_0.length : Int)) = true := decide_eq_true c38
       clear c38
       by_cases c39 : 0 ≤ x36_1
       ·rw [if_pos c39] at H
        have c39b0 : decide (0 ≤ x36_1) = true := decide_eq_true c39
        clear c39
        by_cases c40 : x36_1 < (l1_0.length : Int)
        ·rw [if_pos c40] at H
         have c40b0 : decide (x36_1 < (l1_0.length : Int)) = true := decide_eq_true c40
         clear c40
         have HC41 := Aside0.mk H
         clear H
         have p718 : 0 ≤ (x36_1 : Int) := of_decide_eq_true tW_
         have q718 : x36_1 < (l1_0.length : Int) := of_decide_eq_true tW_
         obtain ⟨ad718, e718, hx718_0⟩ := Kd.at_int HR1_0.out x36_1 p718 q718
         cases e718
         replace hx718_0 := bc_ HB hx718_0
         replace p718 := eq_true p718
         replace q718 := eq_true q718
         go_upto_region 13 with (fail)
         go_cut [55] (fun v55 wc => ∃ (kq : Nat) (x55_40 : Bool), v55 = .bool x55_40 ∧ Aside0 (fleet_Refit.j1 kq l0 a2 x11_1 x36_1 (rd l1_0 x36_1) l1_0 (l1_0.length : Int) x36_1 x55_40 l1_0 l1_1 a1_2 a1_3 a1_4 a1_5 l1_6 x718000_1 x718001_1 t710 t711 t712 t713 t714 = some (r1, r2, r3, r4, r5, r6, r7, r8, r9)) ∧ Aside0 (kq ≤ k1) ∧ Aside0 (Kd.R (Kd.int .i64) 3 wc w.heap.size (fun k_ => some k_ ≠ (u718001 : Value).ownBlock) u718000 x718000_1) ∧ Aside0 (Kd.R (Kd.int .i64) 3 wc w.heap.size (fun k_ => some k_ ≠ (u718000 : Value).ownBlock) u718001 x718001_1) ∧ Aside0 (Kd.R k69 69 wc w.heap.size (fun _ => True) (.slice Ao36 t714.length co36) t714) ∧ Aside0 (wc.heap[gb697]? = some (.cells #[(.slice (some ad718) l1_0.length c1_0), (.slice A1_1 l1_1.length c1_1), .int .i64 a1_2, .int .i64 a1_3, .int .i64 a1_4, .int .i64 a1_5, (.slice A1_6 l1_6.length c1_6)] 27 (0, 0))) ∧ Aside0 (wc.heap[gb698]? = some (.cells #[(.slice none 0 0), (.slice none 0 0), .int .i64 0, .int .i64 0, .int .i64 0, .int .i64 0, (.slice none 0 0)] 27 (0, 0))) ∧ Aside0 (wc.heap[gb717]? = some (.cells #[u718000, u718001, .int .i64 t710, .int .i64 t711, .int .i64 t712, .int .i64 t713, (.slice Ao36 t714.length co36)] 27 (0, 0))) ∧ Aside0 (Below w.heap.size w wc))
         case first =>
          have H := HC41.out
          clear HC41
          by_cases c42 : 0 ≤ (rd l1_0 x36_1)
          ·rw [if_pos c42] at H
           have c42b0 : decide (0 ≤ (rd l1_0 x36_1)) = true := decide_eq_true c42
           clear c42
           (first | rw [c42b0] | (simp only [i64_w, i32_w]; rw [c42b0]) | skip)
           by_cases c43 : (rd l1_0 x36_1) < (l0.length : Int)
           ·rw [if_pos c43] at H
            have c43b0 : decide ((rd l1_0 x36_1) < (l0.length : Int)) = true := decide_eq_true c43
            clear c43
            by_cases c44 : ((rd_T54 l0 (rd l1_0 x36_1)).f7) > 0
            ·rw [if_pos c44] at H
             have c44b0 : decide (0 < ((rd_T54 l0 (rd l1_0 x36_1)).f7)) = true := decide_eq_true c44
             clear c44
             by_cases c45 : x36_1 < (l1_1.length : Int)
             ·rw [if_pos c45] at H
              have c45b0 : decide (x36_1 < (l1_1.length : Int)) = true := decide_eq_true c45
              clear c45
              have H' := Aside0.mk H
              clear H
              have p719 : 0 ≤ ((rd l1_0 x36_1) : Int) := of_decide_eq_true tW_
              have q719 : (rd l1_0 x36_1) < (l0.length : Int) := of_decide_eq_true tW_
              obtain ⟨ad719, e719, hx719_0, hx719_1, hx719_2, hx719_3, hx719_4, hx719_5, hx719_6, hx719_7, hx719_8, hx719_9, hx719_10, hx719_11, hx719_12, hx719_13⟩ := at_T54 HR0.out (rd l1_0 x36_1) p719 q719
              cases e719
              replace hx719_0 := bc_ HB hx719_0
              replace hx719_1 := bc_ HB hx719_1
              replace hx719_2 := bc_ HB hx719_2
              replace hx719_3 := bc_ HB hx719_3
              replace hx719_4 := bc_ HB hx719_4
              replace hx719_5 := bc_ HB hx719_5
              replace hx719_6 := bc_ HB hx719_6
              replace hx719_7 := bc_ HB hx719_7
              replace hx719_8 := bc_ HB hx719_8
              replace hx719_9 := bc_ HB hx719_9
              replace hx719_10 := bc_ HB hx719_10
              replace hx719_11 := bc_ HB hx719_11
              replace hx719_12 := bc_ HB hx719_12
              replace hx719_13 := bc_ HB hx719_13
              replace p719 := eq_true p719
              replace q719 := eq_true q719
              have hnb46 := NB697_698.out
              have hnc46 := NB698_697.out
              have hnb47 := NB697_717.out
              have hnc47 := NB717_697.out
              obtain ⟨hcz48_0, hcz48_1, hcz48_2, hcz48_3, hcz48_4, hcz48_5, hcz48_6, hfz48_0, hfz48_1, hfz48_2, hfz48_3, hfz48_4, hfz48_5, hfz48_6⟩ := cs7_ BK697.out
              have p720 : 0 ≤ (x36_1 : Int) := of_decide_eq_true tW_
              have q720 : x36_1 < (l1_1.length : Int) := of_decide_eq_true tW_
              obtain ⟨ad720, e720, hx720_0⟩ := Kd.at_int HR1_1.out x36_1 p720 q720
              cases e720
              replace hx720_0 := bc_ HB hx720_0
              replace p720 := eq_true p720
              replace q720 := eq_true q720
              go_wp2
              go_meet
              case rel => exact ⟨_, (((rd l1_1 x36_1) != a2)), tS_, H', ⟨by have := HK1.out; first | omega | exact Nat.le_refl _⟩, ⟨dR_ HO_718000⟩, ⟨dR_ HO_718001⟩, ⟨dR_ HO_718006⟩, ⟨dB_ BK697⟩, ⟨dB_ BK698⟩, ⟨dB_ BK717⟩, ⟨dL3_ HB GE697 GE698 GE717⟩⟩
             ·rw [if_neg c45] at H
              exact absurd H (by simp)
            ·rw [if_neg c44] at H
             have c44b0 : decide (0 < ((rd_T54 l0 (rd l1_0 x36_1)).f7)) = false := decide_eq_false c44
             clear c44
             have H' := Aside0.mk H
             clear H
             have p719 : 0 ≤ ((rd l1_0 x36_1) : Int) := of_decide_eq_true tW_
             have q719 : (rd l1_0 x36_1) < (l0.length : Int) := of_decide_eq_true tW_
             obtain ⟨ad719, e719, hx719_0, hx719_1, hx719_2, hx719_3, hx719_4, hx719_5, hx719_6, hx719_7, hx719_8, hx719_9, hx719_10, hx719_11, hx719_12, hx719_13⟩ := at_T54 HR0.out (rd l1_0 x36_1) p719 q719
             cases e719
             replace hx719_0 := bc_ HB hx719_0
             replace hx719_1 := bc_ HB hx719_1
             replace hx719_2 := bc_ HB hx719_2
             replace hx719_3 := bc_ HB hx719_3
             replace hx719_4 := bc_ HB hx719_4
             replace hx719_5 := bc_ HB hx719_5
             replace hx719_6 := bc_ HB hx719_6
             replace hx719_7 := bc_ HB hx719_7
             replace hx719_8 := bc_ HB hx719_8
             replace hx719_9 := bc_ HB hx719_9
             replace hx719_10 := bc_ HB hx719_10
             replace hx719_11 := bc_ HB hx719_11
             replace hx719_12 := bc_ HB hx719_12
             replace hx719_13 := bc_ HB hx719_13
             replace p719 := eq_true p719
             replace q719 := eq_true q719
             go_wp2
             go_meet
             case rel => exact ⟨_, (false), tS_, H', ⟨by have := HK1.out; first | omega | exact Nat.le_refl _⟩, ⟨dR_ HO_718000⟩, ⟨dR_ HO_718001⟩, ⟨dR_ HO_718006⟩, ⟨dB_ BK697⟩, ⟨dB_ BK698⟩, ⟨dB_ BK717⟩, ⟨dL3_ HB GE697 GE698 GE717⟩⟩
           ·rw [if_neg c43] at H
            exact absurd H (by simp)
          ·rw [if_neg c42] at H
           exact absurd H (by simp)
         case rest =>
          clear HC41
          try clear c5
          try clear c5b0
          try clear c5b1
          try clear c7
          try clear c8
          try clear c8b0
          try clear c8b1
          try clear c38
          try clear c38b0
          try clear c39
          try clear c39b0
          try clear c40
          try clear c40b0
          try clear c42
          try clear c43
          try clear c44
          try clear c45
          try clear hcz23_0
          try clear hcz23_1
          try clear hcz23_2
          try clear hcz23_3
          try clear hcz23_4
          try clear hcz23_5
          try clear hcz23_6
          try clear hcz28_0
          try clear hcz28_1
          try clear hcz28_2
          try clear hcz28_3
          try clear hcz28_4
          try clear hcz28_5
          try clear hcz28_6
          try clear hcz34_0
          try clear hcz34_1
          try clear hcz34_2
          try clear hcz34_3
          try clear hcz34_4
          try clear hcz34_5
          try clear hcz34_6
          try clear hcz37_0
          try clear hcz37_1
          try clear hcz37_2
          try clear hcz37_3
          try clear hcz37_4
          try clear hcz37_5
          try clear hcz37_6
          try clear hfz23_0
          try clear hfz23_1
          try clear hfz23_2
          try clear hfz23_3
          try clear hfz23_4
          try clear hfz23_5
          try clear hfz23_6
          try clear hfz28_0
          try clear hfz28_1
          try clear hfz28_2
          try clear hfz28_3
          try clear hfz28_4
          try clear hfz28_5
          try clear hfz28_6
          try clear hfz34_0
          try clear hfz34_1
          try clear hfz34_2
          try clear hfz34_3
          try clear hfz34_4
          try clear hfz34_5
          try clear hfz34_6
          try clear hfz37_0
          try clear hfz37_1
          try clear hfz37_2
          try clear hfz37_3
          try clear hfz37_4
          try clear hfz37_5
          try clear hfz37_6
          try clear hx718_0
          try clear p718
          try clear q718
          obtain ⟨kq, x55_40, rfl, HA, HJ40, HO_718000, HO_718001, HO_718006, BK697, BK698, BK717, HB⟩ := hcut
          cases kq with
          | zero => exact absurd HA.out (by simp [fleet_Refit.j1])
          | succ kj40 =>
           have H := HA.out
           clear HA
           simp only [fleet_Refit.j1] at H
           by_cases c49 : x55_40 = true
           ·subst c49
            have H1 : (if 0 ≤ x36_1 then (if x36_1 < (x718001_1.length : Int) then (if 0 ≤ (rd l1_0 x36_1) then (if (rd l1_0 x36_1) < (l0.length : Int) then (fleet_Refit.l0 kj40 l0 a2 (wrap64 (x11_1 + (wrap64 (Int.tdiv ((rd_T54 l0 (rd l1_0 x36_1)).f9) 8)))) l1_0 (l1_0.length : Int) (wrap64 (x36_1 + 1)) l1_0 l1_1 a1_2 a1_3 a1_4 a1_5 l1_6 x718000_1 (x718001_1.set (x36_1 : Int).toNat a2) t710 t711 t712 t713 t714) else (none)) else (none)) else (none)) else (none)) = some (r1, r2, r3, r4, r5, r6, r7, r8, r9) := by rw [if_pos rfl] at H; exact H
            clear H
            have H := H1
            clear H1
            by_cases c50 : 0 ≤ x36_1
            ·rw [if_pos c50] at H
             have c50b0 : decide (0 ≤ x36_1) = true := decide_eq_true c50
             clear c50
             by_cases c51 : x36_1 < (x718001_1.length : Int)
             ·rw [if_pos c51] at H
              have c51b0 : decide (x36_1 < (x718001_1.length : Int)) = true := decide_eq_true c51
              clear c51
              obtain ⟨y721, hy721⟩ : ∃ y_ : List Int, y_ = (x718001_1.set (x36_1 : Int).toNat a2) := ⟨_, rfl⟩
              replace H : (if 0 ≤ (rd l1_0 x36_1) then (if (rd l1_0 x36_1) < (l0.length : Int) then (fleet_Refit.l0 kj40 l0 a2 (wrap64 (x11_1 + (wrap64 (Int.tdiv ((rd_T54 l0 (rd l1_0 x36_1)).f9) 8)))) l1_0 (l1_0.length : Int) (wrap64 (x36_1 + 1)) l1_0 l1_1 a1_2 a1_3 a1_4 a1_5 l1_6 x718000_1 y721 t710 t711 t712 t713 t714) else (none)) else (none)) = some (r1, r2, r3, r4, r5, r6, r7, r8, r9) := by first | (rw [hy721]; with_reducible exact H) | (have H2_ := (Option.bind_some _ _).symm.trans H; rw [hy721]; with_reducible exact H2_) | (have H2_ := (Option.bind_some _ _).symm.trans H; with_reducible exact H2_) | with_reducible exact H | (rw [hy721]; exact H) | exact H
              have Ny721 := Aside0.mk hy721
              clear hy721
              by_cases c53 : 0 ≤ (rd l1_0 x36_1)
              ·rw [if_pos c53] at H
               have c53b0 : decide (0 ≤ (rd l1_0 x36_1)) = true := decide_eq_true c53
               clear c53
               by_cases c54 : (rd l1_0 x36_1) < (l0.length : Int)
               ·rw [if_pos c54] at H
                have c54b0 : decide ((rd l1_0 x36_1) < (l0.length : Int)) = true := decide_eq_true c54
                clear c54
                have H' := Aside0.mk H
                clear H
                have hnb55 := NB717_697.out
                have hnc55 := NB697_717.out
                have hnb56 := NB717_698.out
                have hnc56 := NB698_717.out
                obtain ⟨hcz57_0, hcz57_1, hcz57_2, hcz57_3, hcz57_4, hcz57_5, hcz57_6, hfz57_0, hfz57_1, hfz57_2, hfz57_3, hfz57_4, hfz57_5, hfz57_6⟩ := cs7_ BK717.out
                have p52 : 0 ≤ (x36_1 : Int) := of_decide_eq_true tW_
                have q52 : (x36_1 : Int) < ((x718001_1.length : Int) : Int) := of_decide_eq_true tW_
                obtain ⟨go52, co52, eo52, gb52, gl52, cl52, HG52⟩ := Kd.R_form HO_718001.out (by omega)
                (first | cases eo52 | (injection eo52 with ea_ en_ ec_; (first | subst ea_ | (injection ea_ with ea_; subst ea_)); subst ec_; clear en_))
                have GB52 := Aside0.mk gb52
                have GG52 := Aside0.mk HG52
                clear gb52 gl52 HG52
                obtain ⟨hx52_0, hf52_0⟩ := Kd.R_celln 0 HO_718001.out (x36_1 : Int) p52 q52
                replace p52 := eq_true p52
                replace q52 := eq_true q52
                have HP58 := Kd.R_putg HO_718001.out (x36_1 : Int) a2
                go_wp2_with (first | ((with_reducible refine gate_store (t := 3) (p := 60) rfl ?_); refine store_event (t := 3) (p := 60) (v := ?vo_w59) (w1 := (wc.setCell ⟨go52, (x36_1 : Int).toNat, none⟩ (.int .i64 a2))) ?hg ?ho ?hn ?hr ?_; (case ho => rfl); (case hg => rfl); (case hn => rfl); (case hr => first | (go_simp; done) | (go_simp; rfl)); intro w59 hw; have hg : wc.grownBy w59 (some go52) := (by rw [hw]; exact HP58.2); have hp_ : Kd.R (Kd.int .i64) 3 w59 w.heap.size (fun k_ => some k_ ≠ (u718000 : Value).ownBlock) (.slice (some ⟨go52, 0, none⟩) x718001_1.length co52) y721 := (by rw [hw, Ny721.out]; exact HP58.1); clear HP58; have n0_ := Aside0.mk (Kd.R_after (v := (.slice (some ⟨go52, 0, none⟩) x718001_1.length co52)) (v1 := (.slice (some ⟨go52, 0, none⟩) x718001_1.length co52)) (ok := (fun _ => True)) (by (with_reducible repeat (first | apply Kd.R_alloc | apply Kd.R_drewN | apply Kd.R_drew)); exact Kd.R_mono HO_718000.out (fun _ hk => ⟨trivial, hk⟩)) hg (.inl rfl)); have n1_ := Aside0.mk (hp_); have n2_ := Aside0.mk (Kd.R_over' (v := (.slice (some ⟨go52, 0, none⟩) x718001_1.length co52)) (dR_ HO_718006) (Kd.R_typed HO_718001.out) (by decide) hg); have n3_ := Aside0.mk (blk_grown (g := gb697) (o := .cells #[.slice (some ad718) l1_0.length c1_0, .slice A1_1 l1_1.length c1_1, .int .i64 a1_2, .int .i64 a1_3, .int .i64 a1_4, .int .i64 a1_5, .slice A1_6 l1_6.length c1_6] 27 (0, 0)) (dB_ BK697) hg (Kd.R_ne HO_718001.out BK697.out (by decide))); have n4_ := Aside0.mk (blk_grown (g := gb698) (o := .cells #[.slice none 0 0, .slice none 0 0, .int .i64 0, .int .i64 0, .int .i64 0, .int .i64 0, .slice none 0 0] 27 (0, 0)) (dB_ BK698) hg (Kd.R_ne HO_718001.out BK698.out (by decide))); have n5_ := Aside0.mk (blk_grown (g := gb717) (o := .cells #[u718000, .slice (some ⟨go52, 0, none⟩) x718001_1.length co52, .int .i64 t710, .int .i64 t711, .int .i64 t712, .int .i64 t713, .slice Ao36 t714.length co36] 27 (0, 0)) (dB_ BK717) hg (Kd.R_ne HO_718001.out BK717.out (by decide))); have n6_ := Aside0.mk ((by rw [hw]; exact below_set (HB.out) GB52.out : Below w.heap.size w w59)); clear HO_718000; clear HO_718001; clear HO_718006; clear BK697; clear BK698; clear BK717; clear HB; have HO_718000 := n0_; have HO_718001 := n1_; have HO_718006 := n2_; have BK697 := n3_; have BK698 := n4_; have BK717 := n5_; have HB := n6_; clear n0_ n1_ n2_ n3_ n4_ n5_ n6_; clear hg hw hp_; have p722 : 0 ≤ ((rd l1_0 x36_1) : Int) := of_decide_eq_true tW_; have q722 : (rd l1_0 x36_1) < (l0.length : Int) := of_decide_eq_true tW_; obtain ⟨ad722, e722, hx722_0, hx722_1, hx722_2, hx722_3, hx722_4, hx722_5, hx722_6, hx722_7, hx722_8, hx722_9, hx722_10, hx722_11, hx722_12, hx722_13⟩ := at_T54 HR0.out (rd l1_0 x36_1) p722 q722; cases e722; replace hx722_0 := bc_ HB hx722_0; replace hx722_1 := bc_ HB hx722_1; replace hx722_2 := bc_ HB hx722_2; replace hx722_3 := bc_ HB hx722_3; replace hx722_4 := bc_ HB hx722_4; replace hx722_5 := bc_ HB hx722_5; replace hx722_6 := bc_ HB hx722_6; replace hx722_7 := bc_ HB hx722_7; replace hx722_8 := bc_ HB hx722_8; replace hx722_9 := bc_ HB hx722_9; replace hx722_10 := bc_ HB hx722_10; replace hx722_11 := bc_ HB hx722_11; replace hx722_12 := bc_ HB hx722_12; replace hx722_13 := bc_ HB hx722_13; replace p722 := eq_true p722; replace q722 := eq_true q722))
                go_roundg kj40
                case measure => have := HK1.out; have := HJ40.out; omega
                case rel => exact ⟨(wrap64 (x11_1 + (wrap64 (Int.tdiv ((rd_T54 l0 (rd l1_0 x36_1)).f9) 8)))), (wrap64 (x36_1 + 1)), (x718000_1), (y721), (u718000), (.slice (some ⟨go52, 0, none⟩) x718001_1.length co52), tS_, tS_, H', ⟨by have := HK1.out; have := HJ40.out; omega⟩, ⟨by (with_reducible repeat (first | apply Kd.R_alloc | apply Kd.R_drewN | apply Kd.R_drew)); exact Kd.R_mono HO_718000.out (fun _ hk => hk.2)⟩, ⟨dR_ HO_718001⟩, ⟨dR_ HO_718006⟩, ⟨dB_ BK697⟩, ⟨dB_ BK698⟩, ⟨dB_ BK717⟩, ⟨dL3_ HB GE697 GE698 GE717⟩⟩
               ·rw [if_neg c54] at H
                exact absurd H (by simp)
              ·rw [if_neg c53] at H
               exact absurd H (by simp)
             ·rw [if_neg c51] at H
              exact absurd H (by simp)
            ·rw [if_neg c50] at H
             exact absurd H (by simp)
           ·replace c49 := Bool.eq_false_iff.mpr c49
            subst c49
            have H1 : (fleet_Refit.l0 kj40 l0 a2 x11_1 l1_0 (l1_0.length : Int) (wrap64 (x36_1 + 1)) l1_0 l1_1 a1_2 a1_3 a1_4 a1_5 l1_6 x718000_1 x718001_1 t710 t711 t712 t713 t714) = some (r1, r2, r3, r4, r5, r6, r7, r8, r9) := by rw [if_neg (show ¬ (false = true) by decide)] at H; exact H
            clear H
            have H := H1
            clear H1
            have H' := Aside0.mk H
            clear H
            go_wp2
            go_roundg kj40
            case measure => have := HK1.out; have := HJ40.out; omega
            case rel => exact ⟨(x11_1), (wrap64 (x36_1 + 1)), (x718000_1), (x718001_1), (u718000), (u718001), tS_, tS_, H', ⟨by have := HK1.out; have := HJ40.out; omega⟩, ⟨dR_ HO_718000⟩, ⟨dR_ HO_718001⟩, ⟨dR_ HO_718006⟩, ⟨dB_ BK697⟩, ⟨dB_ BK698⟩, ⟨dB_ BK717⟩, ⟨dL3_ HB GE697 GE698 GE717⟩⟩
        ·rw [if_neg c40] at H
         exact absurd H (by simp)
       ·rw [if_neg c39] at H
        exact absurd H (by simp)
      ·rw [if_neg c38] at H
       have c38b0 : decide (x36_1 < (l1_0.length : Int)) = false := decide_eq_false c38
       clear c38
       simp only [Option.some.injEq, Prod.mk.injEq] at H
       obtain ⟨rfl, rfl, rfl, rfl, rfl, rfl, rfl, rfl, rfl⟩ := H
       have hnb60 := NB717_697.out
       have hnc60 := NB697_717.out
       have hnb61 := NB717_698.out
       have hnc61 := NB698_717.out
       obtain ⟨hcz62_0, hcz62_1, hcz62_2, hcz62_3, hcz62_4, hcz62_5, hcz62_6, hfz62_0, hfz62_1, hfz62_2, hfz62_3, hfz62_4, hfz62_5, hfz62_6⟩ := cs7_ BK717.out
       obtain ⟨Ao63, co63, eo63⟩ := Kd.R_slice HO_718000.out
       subst eo63
       have hnb64 := NB698_697.out
       have hnc64 := NB697_698.out
       obtain ⟨hcz65_0, hcz65_1, hcz65_2, hcz65_3, hcz65_4, hcz65_5, hcz65_6, hfz65_0, hfz65_1, hfz65_2, hfz65_3, hfz65_4, hfz65_5, hfz65_6⟩ := cs7_ BK698.out
       obtain ⟨Ao66, co66, eo66⟩ := Kd.R_slice HO_718001.out
       subst eo66
       go_wp2
       refine bodyPost_ret (results_ctt rfl _ _ gb698 27 #[.slice Ao63 x718000_1.length co63, .slice Ao66 x718001_1.length co66, .int .i64 t710, .int .i64 t711, .int .i64 t712, .int .i64 t713, .slice Ao36 t714.length co36] (0, 0) _ rfl (dP7_ BK698) Try.underlying27 rfl (by kernel_rfl)) rfl ?_
       exact ⟨_, _, _, tE_, by (with_reducible repeat (first | apply Kd.R_alloc | apply Kd.R_drewN | apply Kd.R_drew)); exact Kd.R_mono (far7_ (Kd.R_types HO_718000.out BK698.out (by decide)) gb698 (fun _ hk => hk.2) (.slice Ao63 x718000_1.length co63) (.slice Ao66 x718001_1.length co66) (.int .i64 t710) (.int .i64 t711) (.int .i64 t712) (.int .i64 t713) (.slice Ao36 t714.length co36)) (fun _ hk => hk.1), by (with_reducible repeat (first | apply Kd.R_alloc | apply Kd.R_drewN | apply Kd.R_drew)); exact Kd.R_mono (far7_ (Kd.R_types HO_718001.out BK698.out (by decide)) gb698 (fun _ hk => hk.2) (.slice Ao63 x718000_1.length co63) (.slice Ao66 x718001_1.length co66) (.int .i64 t710) (.int .i64 t711) (.int .i64 t712) (.int .i64 t713) (.slice Ao36 t714.length co36)) (fun _ hk => hk.1), by (with_reducible repeat (first | apply Kd.R_alloc | apply Kd.R_drewN | apply Kd.R_drew)); exact Kd.R_mono (far7_ (Kd.R_types HO_718006.out BK698.out (by decide)) gb698 (fun _ hk => hk.2) (.slice Ao63 x718000_1.length co63) (.slice Ao66 x718001_1.length co66) (.int .i64 t710) (.int .i64 t711) (.int .i64 t712) (.int .i64 t713) (.slice Ao36 t714.length co36)) (fun _ hk => trivial), dL3_ HB GE697 GE698 GE717⟩
  ·replace c7 := Bool.eq_false_iff.mpr c7
   subst c7
   have H1 : (some (([] : List Int), ([] : List Int), 0, 0, 0, 0, ([] : List (S69)), 0, 1)) = some (r1, r2, r3, r4, r5, r6, r7, r8, r9) := by rw [if_neg (show ¬ (false = true) by decide)] at H; exact H
   clear H
   have H := H1
   clear H1
   simp only [Option.some.injEq, Prod.mk.injEq] at H
   obtain ⟨rfl, rfl, rfl, rfl, rfl, rfl, rfl, rfl, rfl⟩ := H
   go_enter Try.func36, Try.ntmps36
   go_wp2_with (first | ((with_reducible refine gate_dst (N := 4) rfl ?_); refine box_event ?hg (N := 4) ?hd (cs := #[.slice A1_0 l1_0.length c1_0, .slice A1_1 l1_1.length c1_1, .int .i64 a1_2, .int .i64 a1_3, .int .i64 a1_4, .int .i64 a1_5, .slice A1_6 l1_6.length c1_6]) (t := 27) ?hr ?_; (case hd => rfl); (case hg => rfl); (case hr => first | (go_simp; done) | (go_simp; rfl)); intro gb697 hg w67 hbox hb; have n0_ := Aside0.mk (below_step (dL_ HB) hb); have n1_ := Aside0.mk (hbox); have n2_ := Aside0.mk ((dS_ hg (dL_ HB) : w.heap.size ≤ gb697)); have n3_ := Aside0.mk ((dS_ hg (dL_ HB) : w.heap.size ≤ gb697)); clear HB; have HB := n0_; have BK697 := n1_; have GW697 := n2_; have GE697 := n3_; clear n0_ n1_ n2_ n3_; clear hb hbox hg) | ((with_reducible refine gate_dst (N := 6) rfl ?_); refine box_event ?hg (N := 6) ?hd (cs := #[.slice none 0 0, .slice none 0 0, .int .i64 0, .int .i64 0, .int .i64 0, .int .i64 0, .slice none 0 0]) (t := 27) ?hr ?_; (case hd => rfl); (case hg => rfl); (case hr => first | (go_simp; done) | (go_simp; rfl)); intro gb698 hg w68 hbox hb; have n0_ := Aside0.mk (bb_ BK697 hb); have n1_ := Aside0.mk (below_step (dL1_ HB GE697) hb); have n2_ := Aside0.mk (hbox); have n3_ := Aside0.mk ((dS_ hg (dL1_ HB GE697) : w.heap.size ≤ gb698)); have n4_ := Aside0.mk ((dS_ hg (dL1_ HB GE697) : w.heap.size ≤ gb698)); have n5_ := Aside0.mk ((by rw [hg]; exact Nat.ne_of_lt (blk_lt (dB_ BK697)) : gb697 ≠ gb698)); have n6_ := Aside0.mk ((by rw [hg]; exact Nat.ne_of_gt (blk_lt (dB_ BK697)) : gb698 ≠ gb697)); clear BK697; clear HB; have BK697 := n0_; have HB := n1_; have BK698 := n2_; have GW698 := n3_; have GE698 := n4_; have NB697_698 := n5_; have NB698_697 := n6_; clear n0_ n1_ n2_ n3_ n4_ n5_ n6_; clear hb hbox hg; have hnb69 := NB697_698.out; have hnc69 := NB698_697.out; obtain ⟨hcz70_0, hcz70_1, hcz70_2, hcz70_3, hcz70_4, hcz70_5, hcz70_6, hfz70_0, hfz70_1, hfz70_2, hfz70_3, hfz70_4, hfz70_5, hfz70_6⟩ := cs7_ BK697.out) | ((with_reducible refine gate_callee (f := 25) rfl ?_); refine goesL_ (some 16) rfl rfl Try.func25 (by kernel_rfl) rfl #[.slice A0 l0.length c0, .agg #[.slice A1_0 l1_0.length c1_0, .slice A1_1 l1_1.length c1_1, .int .i64 a1_2, .int .i64 a1_3, .int .i64 a1_4, .int .i64 a1_5, .slice A1_6 l1_6.length c1_6]] rfl tA_ ?_; (with_reducible refine (fleet_Validate.calls k _ _ l0 _ _ l1_0 _ _ l1_1 a1_2 a1_3 a1_4 a1_5 _ _ l1_6 t699 _ ?side1 ?side2 ?side3 ?side4 ?side5 ?side6 ?side7 ?side8 A4.out).mono ?_); (case side1 => exact dC_ HR0 HB); (case side2 => exact HC0.out); (case side3 => exact dC_ HR1_0 HB); (case side4 => exact HC1_0.out); (case side5 => exact dC_ HR1_1 HB); (case side6 => exact HC1_1.out); (case side7 => exact dC_ HR1_6 HB); (case side8 => exact HC1_6.out); rintro e w71 ⟨rfl, hb⟩; refine ⟨_, rfl, ?_⟩; have n0_ := Aside0.mk (bb_ BK697 hb); have n1_ := Aside0.mk (bb_ BK698 hb); have n2_ := Aside0.mk (below_step (dL2_ HB GE697 GE698) hb); clear BK697; clear BK698; clear HB; have BK697 := n0_; have BK698 := n1_; have HB := n2_; clear n0_ n1_ n2_; (try clear hb); (try clear hb2); (try clear hk); (try clear hi)) | ((with_reducible refine gate_dst (N := 22) rfl ?_); refine Kd.R_lit (Kd.int .i64) _ 3 ?hg (N := 22) ?hd (xs := ([a2] : List Int)) (inner := [.int .i64 a2]) (ok := fun _ => True) (okp := fun _ => True) ?hr ?hp (fun _ hk => hk) trivial (Below.refl _ _) (Nat.le_refl _) (by simp) ?_; (case hd => rfl); (case hg => rfl); (case hr => first | (go_simp; done) | (go_simp; rfl)); (case hp => exact (Reps.one (show Kd.M (Kd.int .i64) _ _ _ a2 [.int .i64 a2] from rfl) (Reps.none _ _))); intro v701 w72 ho73 hb hg_ hnew_; clear hg_ hnew_; (first | rw [← Ny700.out] at ho73 | (simp only [Int.reduceToNat] at ho73; rw [← Ny700.out] at ho73)); have n0_ := Aside0.mk (Kd.R_lower ho73 (below_size (dL2_ HB GE697 GE698))); have n1_ := Aside0.mk (bb_ BK697 hb); have n2_ := Aside0.mk (bb_ BK698 hb); have n3_ := Aside0.mk (below_step (dL2_ HB GE697 GE698) hb); clear BK697; clear BK698; clear HB; have HO702 := n0_; have BK697 := n1_; have BK698 := n2_; have HB := n3_; clear n0_ n1_ n2_ n3_; clear hb ho73; obtain ⟨Ao74, co74, eo74⟩ := Kd.R_slice HO702.out; subst eo74) | ((with_reducible refine gate_callee (f := 41) rfl ?_); refine goesL_ (some 23) rfl rfl Try.func41 (by kernel_rfl) rfl #[.int .i64 0, .int .i64 15, .slice Ao74 y700.length co74] rfl tA_ ?_; (with_reducible refine (fleet_within.calls k 0 15 _ _ y700 false _ ?side1 ?side2 A6.out).mono ?_); (case side1 => repeat (first | exact (Kd.R_reads' HO702.out).2.2 | (with_reducible refine Kd.C_alloc ?_ _) | (with_reducible refine Kd.C_drewN ?_ _) | (with_reducible refine Kd.C_drew ?_))); (case side2 => exact (Kd.R_reads' HO702.out).2.1); rintro e w' ⟨rfl, ⟨nd, rfl⟩⟩; refine ⟨_, rfl, ?_⟩; (try (rw [drewN_self w72]; generalize hq_ : World.drewN w72 _ = w72; have n0_ : Aside0 (Kd.R (Kd.int .i64) 3 w72 w.heap.size (fun _ => True) (.slice Ao74 y700.length co74) y700) := ⟨by rw [← hq_]; exact (dR_ HO702)⟩; have n1_ : Aside0 (w72.heap[gb697]? = some (.cells #[.slice A1_0 l1_0.length c1_0, .slice A1_1 l1_1.length c1_1, .int .i64 a1_2, .int .i64 a1_3, .int .i64 a1_4, .int .i64 a1_5, .slice A1_6 l1_6.length c1_6] 27 (0, 0))) := ⟨by rw [← hq_]; exact (dB_ BK697)⟩; have n2_ : Aside0 (w72.heap[gb698]? = some (.cells #[.slice none 0 0, .slice none 0 0, .int .i64 0, .int .i64 0, .int .i64 0, .int .i64 0, .slice none 0 0] 27 (0, 0))) := ⟨by rw [← hq_]; exact (dB_ BK698)⟩; have n3_ : Aside0 (Below w.heap.size w w72) := ⟨by rw [← hq_]; exact (dL2_ HB GE697 GE698)⟩; clear HO702 BK697 BK698 HB hq_; have HO702 := n0_; have BK697 := n1_; have BK698 := n2_; have HB := n3_; clear n0_ n1_ n2_ n3_)); obtain ⟨hcz75_0, hcz75_1, hcz75_2, hcz75_3, hcz75_4, hcz75_5, hcz75_6, hfz75_0, hfz75_1, hfz75_2, hfz75_3, hfz75_4, hfz75_5, hfz75_6⟩ := cs7_ BK698.out))
   refine bodyPost_ret (results_ctt rfl _ _ gb698 27 #[.slice none 0 0, .slice none 0 0, .int .i64 0, .int .i64 0, .int .i64 0, .int .i64 0, .slice none 0 0] (0, 0) _ rfl (dP7_ BK698) Try.underlying27 rfl (by kernel_rfl)) rfl ?_
   exact ⟨_, _, _, tE_, by first | exact Kd.R_nil _ _ _ _ _ | exact Kd.N_nil _ _ _ _ _ | exact Kd.V_nil _ _ _ _ _ | exact Kd.Q_nil _ _ _ _ _ | exact Kd.S_nil _ _ _ _ _, by first | exact Kd.R_nil _ _ _ _ _ | exact Kd.N_nil _ _ _ _ _ | exact Kd.V_nil _ _ _ _ _ | exact Kd.Q_nil _ _ _ _ _ | exact Kd.S_nil _ _ _ _ _, by first | exact Kd.R_nil _ _ _ _ _ | exact Kd.N_nil _ _ _ _ _ | exact Kd.V_nil _ _ _ _ _ | exact Kd.Q_nil _ _ _ _ _ | exact Kd.S_nil _ _ _ _ _, dL2_ HB GE697 GE698⟩
 ·rw [if_neg c5] at H
  have c5b0 : (t699 == 0) = false := beq_eq_false_iff_ne.mpr c5
  have c5b1 : (t699 != 0) = true := bne_iff_ne.mpr c5
  simp only [Option.some.injEq, Prod.mk.injEq] at H
  obtain ⟨rfl, rfl, rfl, rfl, rfl, rfl, rfl, rfl, rfl⟩ := H
  go_enter Try.func36, Try.ntmps36
  go_wp2_with (first | ((with_reducible refine gate_dst (N := 4) rfl ?_); refine box_event ?hg (N := 4) ?hd (cs := #[.slice A1_0 l1_0.length c1_0, .slice A1_1 l1_1.length c1_1, .int .i64 a1_2, .int .i64 a1_3, .int .i64 a1_4, .int .i64 a1_5, .slice A1_6 l1_6.length c1_6]) (t := 27) ?hr ?_; (case hd => rfl); (case hg => rfl); (case hr => first | (go_simp; done) | (go_simp; rfl)); intro gb697 hg w76 hbox hb; have n0_ := Aside0.mk (below_step (dL_ HB) hb); have n1_ := Aside0.mk (hbox); have n2_ := Aside0.mk ((dS_ hg (dL_ HB) : w.heap.size ≤ gb697)); have n3_ := Aside0.mk ((dS_ hg (dL_ HB) : w.heap.size ≤ gb697)); clear HB; have HB := n0_; have BK697 := n1_; have GW697 := n2_; have GE697 := n3_; clear n0_ n1_ n2_ n3_; clear hb hbox hg) | ((with_reducible refine gate_dst (N := 6) rfl ?_); refine box_event ?hg (N := 6) ?hd (cs := #[.slice none 0 0, .slice none 0 0, .int .i64 0, .int .i64 0, .int .i64 0, .int .i64 0, .slice none 0 0]) (t := 27) ?hr ?_; (case hd => rfl); (case hg => rfl); (case hr => first | (go_simp; done) | (go_simp; rfl)); intro gb698 hg w77 hbox hb; have n0_ := Aside0.mk (bb_ BK697 hb); have n1_ := Aside0.mk (below_step (dL1_ HB GE697) hb); have n2_ := Aside0.mk (hbox); have n3_ := Aside0.mk ((dS_ hg (dL1_ HB GE697) : w.heap.size ≤ gb698)); have n4_ := Aside0.mk ((dS_ hg (dL1_ HB GE697) : w.heap.size ≤ gb698)); have n5_ := Aside0.mk ((by rw [hg]; exact Nat.ne_of_lt (blk_lt (dB_ BK697)) : gb697 ≠ gb698)); have n6_ := Aside0.mk ((by rw [hg]; exact Nat.ne_of_gt (blk_lt (dB_ BK697)) : gb698 ≠ gb697)); clear BK697; clear HB; have BK697 := n0_; have HB := n1_; have BK698 := n2_; have GW698 := n3_; have GE698 := n4_; have NB697_698 := n5_; have NB698_697 := n6_; clear n0_ n1_ n2_ n3_ n4_ n5_ n6_; clear hb hbox hg; have hnb78 := NB697_698.out; have hnc78 := NB698_697.out; obtain ⟨hcz79_0, hcz79_1, hcz79_2, hcz79_3, hcz79_4, hcz79_5, hcz79_6, hfz79_0, hfz79_1, hfz79_2, hfz79_3, hfz79_4, hfz79_5, hfz79_6⟩ := cs7_ BK697.out) | ((with_reducible refine gate_callee (f := 25) rfl ?_); refine goesL_ (some 16) rfl rfl Try.func25 (by kernel_rfl) rfl #[.slice A0 l0.length c0, .agg #[.slice A1_0 l1_0.length c1_0, .slice A1_1 l1_1.length c1_1, .int .i64 a1_2, .int .i64 a1_3, .int .i64 a1_4, .int .i64 a1_5, .slice A1_6 l1_6.length c1_6]] rfl tA_ ?_; (with_reducible refine (fleet_Validate.calls k _ _ l0 _ _ l1_0 _ _ l1_1 a1_2 a1_3 a1_4 a1_5 _ _ l1_6 t699 _ ?side1 ?side2 ?side3 ?side4 ?side5 ?side6 ?side7 ?side8 A4.out).mono ?_); (case side1 => exact dC_ HR0 HB); (case side2 => exact HC0.out); (case side3 => exact dC_ HR1_0 HB); (case side4 => exact HC1_0.out); (case side5 => exact dC_ HR1_1 HB); (case side6 => exact HC1_1.out); (case side7 => exact dC_ HR1_6 HB); (case side8 => exact HC1_6.out); rintro e w80 ⟨rfl, hb⟩; refine ⟨_, rfl, ?_⟩; have n0_ := Aside0.mk (bb_ BK697 hb); have n1_ := Aside0.mk (bb_ BK698 hb); have n2_ := Aside0.mk (below_step (dL2_ HB GE697 GE698) hb); clear BK697; clear BK698; clear HB; have BK697 := n0_; have BK698 := n1_; have HB := n2_; clear n0_ n1_ n2_; (try clear hb); (try clear hb2); (try clear hk); (try clear hi); obtain ⟨hcz81_0, hcz81_1, hcz81_2, hcz81_3, hcz81_4, hcz81_5, hcz81_6, hfz81_0, hfz81_1, hfz81_2, hfz81_3, hfz81_4, hfz81_5, hfz81_6⟩ := cs7_ BK698.out))
  refine bodyPost_ret (results_ctt rfl _ _ gb698 27 #[.slice none 0 0, .slice none 0 0, .int .i64 0, .int .i64 0, .int .i64 0, .int .i64 0, .slice none 0 0] (0, 0) _ rfl (dP7_ BK698) Try.underlying27 rfl (by kernel_rfl)) rfl ?_
  exact ⟨_, _, _, tE_, by first | exact Kd.R_nil _ _ _ _ _ | exact Kd.N_nil _ _ _ _ _ | exact Kd.V_nil _ _ _ _ _ | exact Kd.Q_nil _ _ _ _ _ | exact Kd.S_nil _ _ _ _ _, by first | exact Kd.R_nil _ _ _ _ _ | exact Kd.N_nil _ _ _ _ _ | exact Kd.V_nil _ _ _ _ _ | exact Kd.Q_nil _ _ _ _ _ | exact Kd.S_nil _ _ _ _ _, by first | exact Kd.R_nil _ _ _ _ _ | exact Kd.N_nil _ _ _ _ _ | exact Kd.V_nil _ _ _ _ _ | exact Kd.Q_nil _ _ _ _ _ | exact Kd.S_nil _ _ _ _ _, dL2_ HB GE697 GE698⟩

end Go.Proofs.Ytgnahbjpockdmaa.Q
