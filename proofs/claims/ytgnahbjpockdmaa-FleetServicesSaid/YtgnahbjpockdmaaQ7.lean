-- PRINTED by print.py out of the translation. Not trusted: Lean checks it.
import Derived.Test.YtgnahbjpockdmaaPrs
import Derived.Test.YtgnahbjpockdmaaQ0
import Derived.Test.YtgnahbjpockdmaaQ6
namespace Go.Proofs.Ytgnahbjpockdmaa.Q
open Go.RowKit Go.Proofs.YtgnahbjpockdmaaPrs Go.Proofs.YtgnahbjpockdmaaOwn Go.Proofs.YtgnahbjpockdmaaW.PrintWords Go.Proofs.YtgnahbjpockdmaaW.PrintLast Go.Proofs.YtgnahbjpockdmaaW.PrintMore
attribute [local go_sem] max2_int min2_int max_two min_two max_three min_three max_four min_four   -- for this text's walks alone
set_option linter.unusedVariables false
set_option linter.unusedSimpArgs false

/-! ### fleet_ValidateModels: function 17 -/
mutual
def fleet_ValidateModels.l0 : Nat → List (S54) → List (S54) → Int → Int → Option (Int)
  | 0, _, _, _, _ => none
  | k + 1, x0, x12, x13, x14 => if x14 < x13 then (if 0 ≤ x14 then (if x14 < (x12.length : Int) then ((fleet_sound.f k ((rd_T54 x12 x14).f0) ((rd_T54 x12 x14).f1) ((rd_T54 x12 x14).f2) ((rd_T54 x12 x14).f3) ((rd_T54 x12 x14).f4) ((rd_T54 x12 x14).f5) ((rd_T54 x12 x14).f6) ((rd_T54 x12 x14).f7) ((rd_T54 x12 x14).f8) ((rd_T54 x12 x14).f9) ((rd_T54 x12 x14).f10) ((rd_T54 x12 x14).f11) ((rd_T54 x12 x14).f12) ((rd_T54 x12 x14).f13)).bind fun t153 => (if t153 = true then (fleet_ValidateModels.l0 k x0 x12 x13 (wrap64 (x14 + 1))) else (some 1))) else (none)) else (none)) else (fleet_ValidateModels.l1 k x0 x0 (x0.length : Int) 0)
def fleet_ValidateModels.l1 : Nat → List (S54) → List (S54) → Int → Int → Option (Int)
  | 0, _, _, _, _ => none
  | k + 1, x0, x22, x23, x24 => if x24 < x23 then (if 0 ≤ x24 then (if x24 < (x22.length : Int) then (if x24 ≤ (x0.length : Int) then ((some (x0.take (x24 : Int).toNat : List (S54))).bind fun y156 => (fleet_ValidateModels.l2 k x0 x22 x23 x24 y156 (y156.length : Int) 0 ((rd_T54 x22 x24).f0) ((rd_T54 x22 x24).f1) ((rd_T54 x22 x24).f2) ((rd_T54 x22 x24).f3) ((rd_T54 x22 x24).f4) ((rd_T54 x22 x24).f5) ((rd_T54 x22 x24).f6) ((rd_T54 x22 x24).f7) ((rd_T54 x22 x24).f8) ((rd_T54 x22 x24).f9) ((rd_T54 x22 x24).f10) ((rd_T54 x22 x24).f11) ((rd_T54 x22 x24).f12) ((rd_T54 x22 x24).f13))) else (none)) else (none)) else (none)) else (some 0)
def fleet_ValidateModels.l2 : Nat → List (S54) → List (S54) → Int → Int → List (S54) → Int → Int → ByteArray → Int → Int → Int → Int → Int → Int → Int → Int → Int → Int → Int → Int → Bool → Option (Int)
  | 0, _, _, _, _, _, _, _, _, _, _, _, _, _, _, _, _, _, _, _, _, _ => none
  | k + 1, x0, x22, x23, x24, x31, x32, x33, x156000, x156001, x156002, x156003, x156004, x156005, x156006, x156007, x156008, x156009, x156010, x156011, x156012, x156013 => if x33 < x32 then (if 0 ≤ x33 then (if x33 < (x31.length : Int) then (if ((rd_T54 x31 x33).f0).toList = x156000.toList then (some 3) else (fleet_ValidateModels.l2 k x0 x22 x23 x24 x31 x32 (wrap64 (x33 + 1)) x156000 x156001 x156002 x156003 x156004 x156005 x156006 x156007 x156008 x156009 x156010 x156011 x156012 x156013)) else (none)) else (none)) else (fleet_ValidateModels.l1 k x0 x22 x23 (wrap64 (x24 + 1)))
end
def fleet_ValidateModels.f (k : Nat) (l0 : List (S54)) : Option (Int) := if (l0.length : Int) > 40 then (some 4) else (fleet_ValidateModels.l0 k l0 l0 (l0.length : Int) 0)
theorem fleet_ValidateModels.mono_l : ∀ k, (∀ y0 y1 y2 y3, LeO (fleet_ValidateModels.l0 k y0 y1 y2 y3) (fleet_ValidateModels.l0 (k + 1) y0 y1 y2 y3)) ∧ (∀ y0 y1 y2 y3, LeO (fleet_ValidateModels.l1 k y0 y1 y2 y3) (fleet_ValidateModels.l1 (k + 1) y0 y1 y2 y3)) ∧ (∀ y0 y1 y2 y3 y4 y5 y6 y7 y8 y9 y10 y11 y12 y13 y14 y15 y16 y17 y18 y19 y20, LeO (fleet_ValidateModels.l2 k y0 y1 y2 y3 y4 y5 y6 y7 y8 y9 y10 y11 y12 y13 y14 y15 y16 y17 y18 y19 y20) (fleet_ValidateModels.l2 (k + 1) y0 y1 y2 y3 y4 y5 y6 y7 y8 y9 y10 y11 y12 y13 y14 y15 y16 y17 y18 y19 y20))
  | 0 => ⟨fun _ _ _ _ r h => by simp [fleet_ValidateModels.l0] at h, fun _ _ _ _ r h => by simp [fleet_ValidateModels.l1] at h, fun _ _ _ _ _ _ _ _ _ _ _ _ _ _ _ _ _ _ _ _ _ r h => by simp [fleet_ValidateModels.l2] at h⟩
  | k + 1 => by
    obtain ⟨ih0, ih1, ih2⟩ := fleet_ValidateModels.mono_l k
    refine ⟨?_, ?_, ?_⟩
    · intro y0 y1 y2 y3
      unfold fleet_ValidateModels.l0
      repeat' first
      | (with_reducible first | exact ih0 _ _ _ _ | exact ih1 _ _ _ _ | exact ih2 _ _ _ _ _ _ _ _ _ _ _ _ _ _ _ _ _ _ _ _ _ | exact fleet_sound.mono _ _ _ _ _ _ _ _ _ _ _ _ _ _ _ | exact LeO.refl _ | exact LeO.none _ | refine LeO.ite ?_ ?_ | refine LeO.bind ?_ (fun _ => ?_))
      | exact ih0 _ _ _ _
      | exact ih1 _ _ _ _
      | exact ih2 _ _ _ _ _ _ _ _ _ _ _ _ _ _ _ _ _ _ _ _ _
      | exact fleet_sound.mono _ _ _ _ _ _ _ _ _ _ _ _ _ _ _
      | exact LeO.none _
      | refine LeO.ite ?_ ?_
      | refine LeO.bind ?_ (fun _ => ?_)
    · intro y0 y1 y2 y3
      unfold fleet_ValidateModels.l1
      repeat' first
      | (with_reducible first | exact ih0 _ _ _ _ | exact ih1 _ _ _ _ | exact ih2 _ _ _ _ _ _ _ _ _ _ _ _ _ _ _ _ _ _ _ _ _ | exact fleet_sound.mono _ _ _ _ _ _ _ _ _ _ _ _ _ _ _ | exact LeO.refl _ | exact LeO.none _ | refine LeO.ite ?_ ?_ | refine LeO.bind ?_ (fun _ => ?_))
      | exact ih0 _ _ _ _
      | exact ih1 _ _ _ _
      | exact ih2 _ _ _ _ _ _ _ _ _ _ _ _ _ _ _ _ _ _ _ _ _
      | exact fleet_sound.mono _ _ _ _ _ _ _ _ _ _ _ _ _ _ _
      | exact LeO.none _
      | refine LeO.ite ?_ ?_
      | refine LeO.bind ?_ (fun _ => ?_)
    · intro y0 y1 y2 y3 y4 y5 y6 y7 y8 y9 y10 y11 y12 y13 y14 y15 y16 y17 y18 y19 y20
      unfold fleet_ValidateModels.l2
      repeat' first
      | (with_reducible first | exact ih0 _ _ _ _ | exact ih1 _ _ _ _ | exact ih2 _ _ _ _ _ _ _ _ _ _ _ _ _ _ _ _ _ _ _ _ _ | exact fleet_sound.mono _ _ _ _ _ _ _ _ _ _ _ _ _ _ _ | exact LeO.refl _ | exact LeO.none _ | refine LeO.ite ?_ ?_ | refine LeO.bind ?_ (fun _ => ?_))
      | exact ih0 _ _ _ _
      | exact ih1 _ _ _ _
      | exact ih2 _ _ _ _ _ _ _ _ _ _ _ _ _ _ _ _ _ _ _ _ _
      | exact fleet_sound.mono _ _ _ _ _ _ _ _ _ _ _ _ _ _ _
      | exact LeO.none _
      | refine LeO.ite ?_ ?_
      | refine LeO.bind ?_ (fun _ => ?_)
theorem fleet_ValidateModels.mono : ∀ a0 k, LeO (fleet_ValidateModels.f k a0) (fleet_ValidateModels.f (k + 1) a0) := by
  intro a0 k
  obtain ⟨ih0, ih1, ih2⟩ := fleet_ValidateModels.mono_l k
  unfold fleet_ValidateModels.f
  repeat' first
      | (with_reducible first | exact ih0 _ _ _ _ | exact ih1 _ _ _ _ | exact ih2 _ _ _ _ _ _ _ _ _ _ _ _ _ _ _ _ _ _ _ _ _ | exact fleet_sound.mono _ _ _ _ _ _ _ _ _ _ _ _ _ _ _ | exact LeO.refl _ | exact LeO.none _ | refine LeO.ite ?_ ?_ | refine LeO.bind ?_ (fun _ => ?_))
      | exact ih0 _ _ _ _
      | exact ih1 _ _ _ _
      | exact ih2 _ _ _ _ _ _ _ _ _ _ _ _ _ _ _ _ _ _ _ _ _
      | exact fleet_sound.mono _ _ _ _ _ _ _ _ _ _ _ _ _ _ _
      | exact LeO.none _
      | refine LeO.ite ?_ ?_
      | refine LeO.bind ?_ (fun _ => ?_)
set_option maxHeartbeats 8000000 in
set_option maxRecDepth 100000 in
theorem fleet_ValidateModels.calls (k : Nat) (A0 : Option Addr) (c0 : Nat) (l0 : List (S54)) (r : Int) (w : World) (hr0 : Kd.C k54 w A0 l0.length l0) (hc0 : l0.length ≤ c0) (h : fleet_ValidateModels.f k l0 = some r) :
    Calls Try.prog 17 #[.slice A0 l0.length c0] w fun e w' => e = .returned (.int .i64 r) ∧ Below w.heap.size w w' := by
 have hu54 := Try.underlying54
 have HR0 := Aside0.mk hr0
 have HC0 := Aside0.mk hc0
 clear hr0 hc0
 have HB := Aside0.mk (Below.refl w.heap.size w)
 have H : (if (l0.length : Int) > 40 then (some 4) else (fleet_ValidateModels.l0 k l0 l0 (l0.length : Int) 0)) = some r := h
 clear h
 by_cases c2 : (l0.length : Int) > 40
 ·rw [if_pos c2] at H
  have c2b0 : decide (40 < (l0.length : Int)) = true := decide_eq_true c2
  have c2b1 : decide (40 < l0.length) = true := decide_eq_true (by omega)
  clear c2
  obtain rfl := Option.some.inj H
  go_enter Try.func17, Try.ntmps17
  go_wp2
  go_ret
  exact ⟨tE_, dL_ HB⟩
 ·rw [if_neg c2] at H
  have c2b0 : decide (40 < (l0.length : Int)) = false := decide_eq_false c2
  have c2b1 : decide (40 < l0.length) = false := decide_eq_false (by omega)
  clear c2
  have H' := Aside0.mk H
  clear H
  go_enter Try.func17, Try.ntmps17
  go_wp2
  go_loopg [14] k (fun kq v14 w' => ∃ (x14_1 : Int), v14 = .int .i64 x14_1 ∧ Aside0 (fleet_ValidateModels.l0 kq l0 l0 (l0.length : Int) x14_1 = some r) ∧ Aside0 (kq ≤ k) ∧ Aside0 (Below w.heap.size w w'))
  case atStart => exact ⟨(0), tS_, H', ⟨Nat.le_refl _⟩, ⟨dL_ HB⟩⟩
  case round =>
   clear H'
   try clear c2
   try clear c2b0
   try clear c2b1
   obtain ⟨x14_1, rfl, HA, HK1, HB⟩ := hrel
   cases gk with
   | zero => exact absurd HA.out (by simp [fleet_ValidateModels.l0])
   | succ k1 =>
    have H := HA.out
    clear HA
    simp only [fleet_ValidateModels.l0] at H
    by_cases c3 : x14_1 < (l0.length : Int)
    ·rw [if_pos c3] at H
     have c3b0 : decide (x14_1 < (l0.length : Int)) = true := decide_eq_true c3
     clear c3
     by_cases c4 : 0 ≤ x14_1
     ·rw [if_pos c4] at H
      have c4b0 : decide (0 ≤ x14_1) = true := decide_eq_true c4
      clear c4
      by_cases c5 : x14_1 < (l0.length : Int)
      ·rw [if_pos c5] at H
       have c5b0 : decide (x14_1 < (l0.length : Int)) = true := decide_eq_true c5
       clear c5
       replace H := Option.bind_eq_some_iff.mp H
       obtain ⟨t153, A60, H⟩ := H
       replace H : (if t153 = true then (fleet_ValidateModels.l0 k1 l0 l0 (l0.length : Int) (wrap64 (x14_1 + 1))) else (some 1)) = some r := H
       have A6 := Aside0.mk A60
       clear A60
       by_cases c7 : t153 = true
       ·subst c7
        have H1 : (fleet_ValidateModels.l0 k1 l0 l0 (l0.length : Int) (wrap64 (x14_1 + 1))) = some r := by rw [if_pos rfl] at H; exact H
        clear H
        have H := H1
        clear H1
        have H' := Aside0.mk H
        clear H
        have p151 : 0 ≤ (x14_1 : Int) := of_decide_eq_true tW_
        have q151 : x14_1 < (l0.length : Int) := of_decide_eq_true tW_
        obtain ⟨ad151, e151, hx151_0, hx151_1, hx151_2, hx151_3, hx151_4, hx151_5, hx151_6, hx151_7, hx151_8, hx151_9, hx151_10, hx151_11, hx151_12, hx151_13⟩ := at_T54 HR0.out x14_1 p151 q151
        cases e151
        replace hx151_0 := bc_ HB hx151_0
        replace hx151_1 := bc_ HB hx151_1
        replace hx151_2 := bc_ HB hx151_2
        replace hx151_3 := bc_ HB hx151_3
        replace hx151_4 := bc_ HB hx151_4
        replace hx151_5 := bc_ HB hx151_5
        replace hx151_6 := bc_ HB hx151_6
        replace hx151_7 := bc_ HB hx151_7
        replace hx151_8 := bc_ HB hx151_8
        replace hx151_9 := bc_ HB hx151_9
        replace hx151_10 := bc_ HB hx151_10
        replace hx151_11 := bc_ HB hx151_11
        replace hx151_12 := bc_ HB hx151_12
        replace hx151_13 := bc_ HB hx151_13
        replace p151 := eq_true p151
        replace q151 := eq_true q151
        go_wp2_with (first | ((with_reducible refine gate_dst (N := 4) rfl ?_); refine box_event ?hg (N := 4) ?hd (cs := #[.string (⟨#[]⟩ : ByteArray), .int .i64 0, .int .i64 0, .int .i64 0, .int .i64 0, .int .i64 0, .int .i64 0, .int .i64 0, .int .i64 0, .int .i64 0, .int .i64 0, .int .i64 0, .int .i64 0, .bool false]) (t := 54) ?hr ?_; (case hd => rfl); (case hg => rfl); (case hr => first | (go_simp; done) | (go_simp; rfl)); intro gb152 hg w8 hbox hb; have BK152 := Aside0.mk (hbox); have GW152 := Aside0.mk ((dS_ hg (dL_ HB) : w.heap.size ≤ gb152)); have GE152 := Aside0.mk ((dS_ hg (dL_ HB) : w.heap.size ≤ gb152)); replace HB := Aside0.mk (below_step (dL_ HB) hb); clear hb hbox hg; obtain ⟨hcz9_0, hcz9_1, hcz9_2, hcz9_3, hcz9_4, hcz9_5, hcz9_6, hcz9_7, hcz9_8, hcz9_9, hcz9_10, hcz9_11, hcz9_12, hcz9_13, hfz9_0, hfz9_1, hfz9_2, hfz9_3, hfz9_4, hfz9_5, hfz9_6, hfz9_7, hfz9_8, hfz9_9, hfz9_10, hfz9_11, hfz9_12, hfz9_13⟩ := cs14_ BK152.out) | ((with_reducible refine gate_callee (f := 37) rfl ?_); refine goesL_ (some 19) rfl rfl Try.func37 (by kernel_rfl) rfl #[.agg #[.string ((rd_T54 l0 x14_1).f0), .int .i64 ((rd_T54 l0 x14_1).f1), .int .i64 ((rd_T54 l0 x14_1).f2), .int .i64 ((rd_T54 l0 x14_1).f3), .int .i64 ((rd_T54 l0 x14_1).f4), .int .i64 ((rd_T54 l0 x14_1).f5), .int .i64 ((rd_T54 l0 x14_1).f6), .int .i64 ((rd_T54 l0 x14_1).f7), .int .i64 ((rd_T54 l0 x14_1).f8), .int .i64 ((rd_T54 l0 x14_1).f9), .int .i64 ((rd_T54 l0 x14_1).f10), .int .i64 ((rd_T54 l0 x14_1).f11), .int .i64 ((rd_T54 l0 x14_1).f12), .bool ((rd_T54 l0 x14_1).f13)]] rfl tA_ ?_; (with_reducible refine (fleet_sound.calls k1 ((rd_T54 l0 x14_1).f0) ((rd_T54 l0 x14_1).f1) ((rd_T54 l0 x14_1).f2) ((rd_T54 l0 x14_1).f3) ((rd_T54 l0 x14_1).f4) ((rd_T54 l0 x14_1).f5) ((rd_T54 l0 x14_1).f6) ((rd_T54 l0 x14_1).f7) ((rd_T54 l0 x14_1).f8) ((rd_T54 l0 x14_1).f9) ((rd_T54 l0 x14_1).f10) ((rd_T54 l0 x14_1).f11) ((rd_T54 l0 x14_1).f12) ((rd_T54 l0 x14_1).f13) true _ A6.out).mono ?_); rintro e w10 ⟨rfl, hb⟩; refine ⟨_, rfl, ?_⟩; replace BK152 := Aside0.mk (blk_below (g := gb152) (o := .cells #[.string ((rd_T54 l0 x14_1).f0), .int .i64 ((rd_T54 l0 x14_1).f1), .int .i64 ((rd_T54 l0 x14_1).f2), .int .i64 ((rd_T54 l0 x14_1).f3), .int .i64 ((rd_T54 l0 x14_1).f4), .int .i64 ((rd_T54 l0 x14_1).f5), .int .i64 ((rd_T54 l0 x14_1).f6), .int .i64 ((rd_T54 l0 x14_1).f7), .int .i64 ((rd_T54 l0 x14_1).f8), .int .i64 ((rd_T54 l0 x14_1).f9), .int .i64 ((rd_T54 l0 x14_1).f10), .int .i64 ((rd_T54 l0 x14_1).f11), .int .i64 ((rd_T54 l0 x14_1).f12), .bool ((rd_T54 l0 x14_1).f13)] 54 (0, 0)) (by (with_reducible repeat (first | refine blk_drewN ?_ _ | refine blk_drew ?_ | refine blk_alloc ?_ _)); refine blk_put (cs := #[.string ((rd_T54 l0 x14_1).f0), .int .i64 ((rd_T54 l0 x14_1).f1), .int .i64 ((rd_T54 l0 x14_1).f2), .int .i64 ((rd_T54 l0 x14_1).f3), .int .i64 ((rd_T54 l0 x14_1).f4), .int .i64 ((rd_T54 l0 x14_1).f5), .int .i64 ((rd_T54 l0 x14_1).f6), .int .i64 ((rd_T54 l0 x14_1).f7), .int .i64 ((rd_T54 l0 x14_1).f8), .int .i64 ((rd_T54 l0 x14_1).f9), .int .i64 ((rd_T54 l0 x14_1).f10), .int .i64 ((rd_T54 l0 x14_1).f11), .int .i64 ((rd_T54 l0 x14_1).f12), .bool false]) ?_ 13 _ rfl; (with_reducible repeat (first | refine blk_drewN ?_ _ | refine blk_drew ?_ | refine blk_alloc ?_ _)); refine blk_put (cs := #[.string ((rd_T54 l0 x14_1).f0), .int .i64 ((rd_T54 l0 x14_1).f1), .int .i64 ((rd_T54 l0 x14_1).f2), .int .i64 ((rd_T54 l0 x14_1).f3), .int .i64 ((rd_T54 l0 x14_1).f4), .int .i64 ((rd_T54 l0 x14_1).f5), .int .i64 ((rd_T54 l0 x14_1).f6), .int .i64 ((rd_T54 l0 x14_1).f7), .int .i64 ((rd_T54 l0 x14_1).f8), .int .i64 ((rd_T54 l0 x14_1).f9), .int .i64 ((rd_T54 l0 x14_1).f10), .int .i64 ((rd_T54 l0 x14_1).f11), .int .i64 0, .bool false]) ?_ 12 _ rfl; (with_reducible repeat (first | refine blk_drewN ?_ _ | refine blk_drew ?_ | refine blk_alloc ?_ _)); refine blk_put (cs := #[.string ((rd_T54 l0 x14_1).f0), .int .i64 ((rd_T54 l0 x14_1).f1), .int .i64 ((rd_T54 l0 x14_1).f2), .int .i64 ((rd_T54 l0 x14_1).f3), .int .i64 ((rd_T54 l0 x14_1).f4), .int .i64 ((rd_T54 l0 x14_1).f5), .int .i64 ((rd_T54 l0 x14_1).f6), .int .i64 ((rd_T54 l0 x14_1).f7), .int .i64 ((rd_T54 l0 x14_1).f8), .int .i64 ((rd_T54 l0 x14_1).f9), .int .i64 ((rd_T54 l0 x14_1).f10), .int .i64 0, .int .i64 0, .bool false]) ?_ 11 _ rfl; (with_reducible repeat (first | refine blk_drewN ?_ _ | refine blk_drew ?_ | refine blk_alloc ?_ _)); refine blk_put (cs := #[.string ((rd_T54 l0 x14_1).f0), .int .i64 ((rd_T54 l0 x14_1).f1), .int .i64 ((rd_T54 l0 x14_1).f2), .int .i64 ((rd_T54 l0 x14_1).f3), .int .i64 ((rd_T54 l0 x14_1).f4), .int .i64 ((rd_T54 l0 x14_1).f5), .int .i64 ((rd_T54 l0 x14_1).f6), .int .i64 ((rd_T54 l0 x14_1).f7), .int .i64 ((rd_T54 l0 x14_1).f8), .int .i64 ((rd_T54 l0 x14_1).f9), .int .i64 0, .int .i64 0, .int .i64 0, .bool false]) ?_ 10 _ rfl; (with_reducible repeat (first | refine blk_drewN ?_ _ | refine blk_drew ?_ | refine blk_alloc ?_ _)); refine blk_put (cs := #[.string ((rd_T54 l0 x14_1).f0), .int .i64 ((rd_T54 l0 x14_1).f1), .int .i64 ((rd_T54 l0 x14_1).f2), .int .i64 ((rd_T54 l0 x14_1).f3), .int .i64 ((rd_T54 l0 x14_1).f4), .int .i64 ((rd_T54 l0 x14_1).f5), .int .i64 ((rd_T54 l0 x14_1).f6), .int .i64 ((rd_T54 l0 x14_1).f7), .int .i64 ((rd_T54 l0 x14_1).f8), .int .i64 0, .int .i64 0, .int .i64 0, .int .i64 0, .bool false]) ?_ 9 _ rfl; (with_reducible repeat (first | refine blk_drewN ?_ _ | refine blk_drew ?_ | refine blk_alloc ?_ _)); refine blk_put (cs := #[.string ((rd_T54 l0 x14_1).f0), .int .i64 ((rd_T54 l0 x14_1).f1), .int .i64 ((rd_T54 l0 x14_1).f2), .int .i64 ((rd_T54 l0 x14_1).f3), .int .i64 ((rd_T54 l0 x14_1).f4), .int .i64 ((rd_T54 l0 x14_1).f5), .int .i64 ((rd_T54 l0 x14_1).f6), .int .i64 ((rd_T54 l0 x14_1).f7), .int .i64 0, .int .i64 0, .int .i64 0, .int .i64 0, .int .i64 0, .bool false]) ?_ 8 _ rfl; (with_reducible repeat (first | refine blk_drewN ?_ _ | refine blk_drew ?_ | refine blk_alloc ?_ _)); refine blk_put (cs := #[.string ((rd_T54 l0 x14_1).f0), .int .i64 ((rd_T54 l0 x14_1).f1), .int .i64 ((rd_T54 l0 x14_1).f2), .int .i64 ((rd_T54 l0 x14_1).f3), .int .i64 ((rd_T54 l0 x14_1).f4), .int .i64 ((rd_T54 l0 x14_1).f5), .int .i64 ((rd_T54 l0 x14_1).f6), .int .i64 0, .int .i64 0, .int .i64 0, .int .i64 0, .int .i64 0, .int .i64 0, .bool false]) ?_ 7 _ rfl; (with_reducible repeat (first | refine blk_drewN ?_ _ | refine blk_drew ?_ | refine blk_alloc ?_ _)); refine blk_put (cs := #[.string ((rd_T54 l0 x14_1).f0), .int .i64 ((rd_T54 l0 x14_1).f1), .int .i64 ((rd_T54 l0 x14_1).f2), .int .i64 ((rd_T54 l0 x14_1).f3), .int .i64 ((rd_T54 l0 x14_1).f4), .int .i64 ((rd_T54 l0 x14_1).f5), .int .i64 0, .int .i64 0, .int .i64 0, .int .i64 0, .int .i64 0, .int .i64 0, .int .i64 0, .bool false]) ?_ 6 _ rfl; (with_reducible repeat (first | refine blk_drewN ?_ _ | refine blk_drew ?_ | refine blk_alloc ?_ _)); refine blk_put (cs := #[.string ((rd_T54 l0 x14_1).f0), .int .i64 ((rd_T54 l0 x14_1).f1), .int .i64 ((rd_T54 l0 x14_1).f2), .int .i64 ((rd_T54 l0 x14_1).f3), .int .i64 ((rd_T54 l0 x14_1).f4), .int .i64 0, .int .i64 0, .int .i64 0, .int .i64 0, .int .i64 0, .int .i64 0, .int .i64 0, .int .i64 0, .bool false]) ?_ 5 _ rfl; (with_reducible repeat (first | refine blk_drewN ?_ _ | refine blk_drew ?_ | refine blk_alloc ?_ _)); refine blk_put (cs := #[.string ((rd_T54 l0 x14_1).f0), .int .i64 ((rd_T54 l0 x14_1).f1), .int .i64 ((rd_T54 l0 x14_1).f2), .int .i64 ((rd_T54 l0 x14_1).f3), .int .i64 0, .int .i64 0, .int .i64 0, .int .i64 0, .int .i64 0, .int .i64 0, .int .i64 0, .int .i64 0, .int .i64 0, .bool false]) ?_ 4 _ rfl; (with_reducible repeat (first | refine blk_drewN ?_ _ | refine blk_drew ?_ | refine blk_alloc ?_ _)); refine blk_put (cs := #[.string ((rd_T54 l0 x14_1).f0), .int .i64 ((rd_T54 l0 x14_1).f1), .int .i64 ((rd_T54 l0 x14_1).f2), .int .i64 0, .int .i64 0, .int .i64 0, .int .i64 0, .int .i64 0, .int .i64 0, .int .i64 0, .int .i64 0, .int .i64 0, .int .i64 0, .bool false]) ?_ 3 _ rfl; (with_reducible repeat (first | refine blk_drewN ?_ _ | refine blk_drew ?_ | refine blk_alloc ?_ _)); refine blk_put (cs := #[.string ((rd_T54 l0 x14_1).f0), .int .i64 ((rd_T54 l0 x14_1).f1), .int .i64 0, .int .i64 0, .int .i64 0, .int .i64 0, .int .i64 0, .int .i64 0, .int .i64 0, .int .i64 0, .int .i64 0, .int .i64 0, .int .i64 0, .bool false]) ?_ 2 _ rfl; (with_reducible repeat (first | refine blk_drewN ?_ _ | refine blk_drew ?_ | refine blk_alloc ?_ _)); refine blk_put (cs := #[.string ((rd_T54 l0 x14_1).f0), .int .i64 0, .int .i64 0, .int .i64 0, .int .i64 0, .int .i64 0, .int .i64 0, .int .i64 0, .int .i64 0, .int .i64 0, .int .i64 0, .int .i64 0, .int .i64 0, .bool false]) ?_ 1 _ rfl; (with_reducible repeat (first | refine blk_drewN ?_ _ | refine blk_drew ?_ | refine blk_alloc ?_ _)); refine blk_put (cs := #[.string (⟨#[]⟩ : ByteArray), .int .i64 0, .int .i64 0, .int .i64 0, .int .i64 0, .int .i64 0, .int .i64 0, .int .i64 0, .int .i64 0, .int .i64 0, .int .i64 0, .int .i64 0, .int .i64 0, .bool false]) ?_ 0 _ rfl; (with_reducible repeat (first | refine blk_drewN ?_ _ | refine blk_drew ?_ | refine blk_alloc ?_ _)); exact BK152.out) hb); replace HB := Aside0.mk (below_step (dL1_ HB GE152) hb)))
        go_roundg k1
        case measure => have := HK1.out; omega
        case rel => exact ⟨(wrap64 (x14_1 + 1)), tS_, H', ⟨by have := HK1.out; omega⟩, ⟨dL1_ HB GE152⟩⟩
       ·replace c7 := Bool.eq_false_iff.mpr c7
        subst c7
        have H1 : (some 1) = some r := by rw [if_neg (show ¬ (false = true) by decide)] at H; exact H
        clear H
        have H := H1
        clear H1
        obtain rfl := Option.some.inj H
        have p151 : 0 ≤ (x14_1 : Int) := of_decide_eq_true tW_
        have q151 : x14_1 < (l0.length : Int) := of_decide_eq_true tW_
        obtain ⟨ad151, e151, hx151_0, hx151_1, hx151_2, hx151_3, hx151_4, hx151_5, hx151_6, hx151_7, hx151_8, hx151_9, hx151_10, hx151_11, hx151_12, hx151_13⟩ := at_T54 HR0.out x14_1 p151 q151
        cases e151
        replace hx151_0 := bc_ HB hx151_0
        replace hx151_1 := bc_ HB hx151_1
        replace hx151_2 := bc_ HB hx151_2
        replace hx151_3 := bc_ HB hx151_3
        replace hx151_4 := bc_ HB hx151_4
        replace hx151_5 := bc_ HB hx151_5
        replace hx151_6 := bc_ HB hx151_6
        replace hx151_7 := bc_ HB hx151_7
        replace hx151_8 := bc_ HB hx151_8
        replace hx151_9 := bc_ HB hx151_9
        replace hx151_10 := bc_ HB hx151_10
        replace hx151_11 := bc_ HB hx151_11
        replace hx151_12 := bc_ HB hx151_12
        replace hx151_13 := bc_ HB hx151_13
        replace p151 := eq_true p151
        replace q151 := eq_true q151
        go_wp2_with (first | ((with_reducible refine gate_dst (N := 4) rfl ?_); refine box_event ?hg (N := 4) ?hd (cs := #[.string (⟨#[]⟩ : ByteArray), .int .i64 0, .int .i64 0, .int .i64 0, .int .i64 0, .int .i64 0, .int .i64 0, .int .i64 0, .int .i64 0, .int .i64 0, .int .i64 0, .int .i64 0, .int .i64 0, .bool false]) (t := 54) ?hr ?_; (case hd => rfl); (case hg => rfl); (case hr => first | (go_simp; done) | (go_simp; rfl)); intro gb152 hg w11 hbox hb; have BK152 := Aside0.mk (hbox); have GW152 := Aside0.mk ((dS_ hg (dL_ HB) : w.heap.size ≤ gb152)); have GE152 := Aside0.mk ((dS_ hg (dL_ HB) : w.heap.size ≤ gb152)); replace HB := Aside0.mk (below_step (dL_ HB) hb); clear hb hbox hg; obtain ⟨hcz12_0, hcz12_1, hcz12_2, hcz12_3, hcz12_4, hcz12_5, hcz12_6, hcz12_7, hcz12_8, hcz12_9, hcz12_10, hcz12_11, hcz12_12, hcz12_13, hfz12_0, hfz12_1, hfz12_2, hfz12_3, hfz12_4, hfz12_5, hfz12_6, hfz12_7, hfz12_8, hfz12_9, hfz12_10, hfz12_11, hfz12_12, hfz12_13⟩ := cs14_ BK152.out) | ((with_reducible refine gate_callee (f := 37) rfl ?_); refine goesL_ (some 19) rfl rfl Try.func37 (by kernel_rfl) rfl #[.agg #[.string ((rd_T54 l0 x14_1).f0), .int .i64 ((rd_T54 l0 x14_1).f1), .int .i64 ((rd_T54 l0 x14_1).f2), .int .i64 ((rd_T54 l0 x14_1).f3), .int .i64 ((rd_T54 l0 x14_1).f4), .int .i64 ((rd_T54 l0 x14_1).f5), .int .i64 ((rd_T54 l0 x14_1).f6), .int .i64 ((rd_T54 l0 x14_1).f7), .int .i64 ((rd_T54 l0 x14_1).f8), .int .i64 ((rd_T54 l0 x14_1).f9), .int .i64 ((rd_T54 l0 x14_1).f10), .int .i64 ((rd_T54 l0 x14_1).f11), .int .i64 ((rd_T54 l0 x14_1).f12), .bool ((rd_T54 l0 x14_1).f13)]] rfl tA_ ?_; (with_reducible refine (fleet_sound.calls k1 ((rd_T54 l0 x14_1).f0) ((rd_T54 l0 x14_1).f1) ((rd_T54 l0 x14_1).f2) ((rd_T54 l0 x14_1).f3) ((rd_T54 l0 x14_1).f4) ((rd_T54 l0 x14_1).f5) ((rd_T54 l0 x14_1).f6) ((rd_T54 l0 x14_1).f7) ((rd_T54 l0 x14_1).f8) ((rd_T54 l0 x14_1).f9) ((rd_T54 l0 x14_1).f10) ((rd_T54 l0 x14_1).f11) ((rd_T54 l0 x14_1).f12) ((rd_T54 l0 x14_1).f13) false _ A6.out).mono ?_); rintro e w13 ⟨rfl, hb⟩; refine ⟨_, rfl, ?_⟩; replace BK152 := Aside0.mk (blk_below (g := gb152) (o := .cells #[.string ((rd_T54 l0 x14_1).f0), .int .i64 ((rd_T54 l0 x14_1).f1), .int .i64 ((rd_T54 l0 x14_1).f2), .int .i64 ((rd_T54 l0 x14_1).f3), .int .i64 ((rd_T54 l0 x14_1).f4), .int .i64 ((rd_T54 l0 x14_1).f5), .int .i64 ((rd_T54 l0 x14_1).f6), .int .i64 ((rd_T54 l0 x14_1).f7), .int .i64 ((rd_T54 l0 x14_1).f8), .int .i64 ((rd_T54 l0 x14_1).f9), .int .i64 ((rd_T54 l0 x14_1).f10), .int .i64 ((rd_T54 l0 x14_1).f11), .int .i64 ((rd_T54 l0 x14_1).f12), .bool ((rd_T54 l0 x14_1).f13)] 54 (0, 0)) (by (with_reducible repeat (first | refine blk_drewN ?_ _ | refine blk_drew ?_ | refine blk_alloc ?_ _)); refine blk_put (cs := #[.string ((rd_T54 l0 x14_1).f0), .int .i64 ((rd_T54 l0 x14_1).f1), .int .i64 ((rd_T54 l0 x14_1).f2), .int .i64 ((rd_T54 l0 x14_1).f3), .int .i64 ((rd_T54 l0 x14_1).f4), .int .i64 ((rd_T54 l0 x14_1).f5), .int .i64 ((rd_T54 l0 x14_1).f6), .int .i64 ((rd_T54 l0 x14_1).f7), .int .i64 ((rd_T54 l0 x14_1).f8), .int .i64 ((rd_T54 l0 x14_1).f9), .int .i64 ((rd_T54 l0 x14_1).f10), .int .i64 ((rd_T54 l0 x14_1).f11), .int .i64 ((rd_T54 l0 x14_1).f12), .bool false]) ?_ 13 _ rfl; (with_reducible repeat (first | refine blk_drewN ?_ _ | refine blk_drew ?_ | refine blk_alloc ?_ _)); refine blk_put (cs := #[.string ((rd_T54 l0 x14_1).f0), .int .i64 ((rd_T54 l0 x14_1).f1), .int .i64 ((rd_T54 l0 x14_1).f2), .int .i64 ((rd_T54 l0 x14_1).f3), .int .i64 ((rd_T54 l0 x14_1).f4), .int .i64 ((rd_T54 l0 x14_1).f5), .int .i64 ((rd_T54 l0 x14_1).f6), .int .i64 ((rd_T54 l0 x14_1).f7), .int .i64 ((rd_T54 l0 x14_1).f8), .int .i64 ((rd_T54 l0 x14_1).f9), .int .i64 ((rd_T54 l0 x14_1).f10), .int .i64 ((rd_T54 l0 x14_1).f11), .int .i64 0, .bool false]) ?_ 12 _ rfl; (with_reducible repeat (first | refine blk_drewN ?_ _ | refine blk_drew ?_ | refine blk_alloc ?_ _)); refine blk_put (cs := #[.string ((rd_T54 l0 x14_1).f0), .int .i64 ((rd_T54 l0 x14_1).f1), .int .i64 ((rd_T54 l0 x14_1).f2), .int .i64 ((rd_T54 l0 x14_1).f3), .int .i64 ((rd_T54 l0 x14_1).f4), .int .i64 ((rd_T54 l0 x14_1).f5), .int .i64 ((rd_T54 l0 x14_1).f6), .int .i64 ((rd_T54 l0 x14_1).f7), .int .i64 ((rd_T54 l0 x14_1).f8), .int .i64 ((rd_T54 l0 x14_1).f9), .int .i64 ((rd_T54 l0 x14_1).f10), .int .i64 0, .int .i64 0, .bool false]) ?_ 11 _ rfl; (with_reducible repeat (first | refine blk_drewN ?_ _ | refine blk_drew ?_ | refine blk_alloc ?_ _)); refine blk_put (cs := #[.string ((rd_T54 l0 x14_1).f0), .int .i64 ((rd_T54 l0 x14_1).f1), .int .i64 ((rd_T54 l0 x14_1).f2), .int .i64 ((rd_T54 l0 x14_1).f3), .int .i64 ((rd_T54 l0 x14_1).f4), .int .i64 ((rd_T54 l0 x14_1).f5), .int .i64 ((rd_T54 l0 x14_1).f6), .int .i64 ((rd_T54 l0 x14_1).f7), .int .i64 ((rd_T54 l0 x14_1).f8), .int .i64 ((rd_T54 l0 x14_1).f9), .int .i64 0, .int .i64 0, .int .i64 0, .bool false]) ?_ 10 _ rfl; (with_reducible repeat (first | refine blk_drewN ?_ _ | refine blk_drew ?_ | refine blk_alloc ?_ _)); refine blk_put (cs := #[.string ((rd_T54 l0 x14_1).f0), .int .i64 ((rd_T54 l0 x14_1).f1), .int .i64 ((rd_T54 l0 x14_1).f2), .int .i64 ((rd_T54 l0 x14_1).f3), .int .i64 ((rd_T54 l0 x14_1).f4), .int .i64 ((rd_T54 l0 x14_1).f5), .int .i64 ((rd_T54 l0 x14_1).f6), .int .i64 ((rd_T54 l0 x14_1).f7), .int .i64 ((rd_T54 l0 x14_1).f8), .int .i64 0, .int .i64 0, .int .i64 0, .int .i64 0, .bool false]) ?_ 9 _ rfl; (with_reducible repeat (first | refine blk_drewN ?_ _ | refine blk_drew ?_ | refine blk_alloc ?_ _)); refine blk_put (cs := #[.string ((rd_T54 l0 x14_1).f0), .int .i64 ((rd_T54 l0 x14_1).f1), .int .i64 ((rd_T54 l0 x14_1).f2), .int .i64 ((rd_T54 l0 x14_1).f3), .int .i64 ((rd_T54 l0 x14_1).f4), .int .i64 ((rd_T54 l0 x14_1).f5), .int .i64 ((rd_T54 l0 x14_1).f6), .int .i64 ((rd_T54 l0 x14_1).f7), .int .i64 0, .int .i64 0, .int .i64 0, .int .i64 0, .int .i64 0, .bool false]) ?_ 8 _ rfl; (with_reducible repeat (first | refine blk_drewN ?_ _ | refine blk_drew ?_ | refine blk_alloc ?_ _)); refine blk_put (cs := #[.string ((rd_T54 l0 x14_1).f0), .int .i64 ((rd_T54 l0 x14_1).f1), .int .i64 ((rd_T54 l0 x14_1).f2), .int .i64 ((rd_T54 l0 x14_1).f3), .int .i64 ((rd_T54 l0 x14_1).f4), .int .i64 ((rd_T54 l0 x14_1).f5), .int .i64 ((rd_T54 l0 x14_1).f6), .int .i64 0, .int .i64 0, .int .i64 0, .int .i64 0, .int .i64 0, .int .i64 0, .bool false]) ?_ 7 _ rfl; (with_reducible repeat (first | refine blk_drewN ?_ _ | refine blk_drew ?_ | refine blk_alloc ?_ _)); refine blk_put (cs := #[.string ((rd_T54 l0 x14_1).f0), .int .i64 ((rd_T54 l0 x14_1).f1), .int .i64 ((rd_T54 l0 x14_1).f2), .int .i64 ((rd_T54 l0 x14_1).f3), .int .i64 ((rd_T54 l0 x14_1).f4), .int .i64 ((rd_T54 l0 x14_1).f5), .int .i64 0, .int .i64 0, .int .i64 0, .int .i64 0, .int .i64 0, .int .i64 0, .int .i64 0, .bool false]) ?_ 6 _ rfl; (with_reducible repeat (first | refine blk_drewN ?_ _ | refine blk_drew ?_ | refine blk_alloc ?_ _)); refine blk_put (cs := #[.string ((rd_T54 l0 x14_1).f0), .int .i64 ((rd_T54 l0 x14_1).f1), .int .i64 ((rd_T54 l0 x14_1).f2), .int .i64 ((rd_T54 l0 x14_1).f3), .int .i64 ((rd_T54 l0 x14_1).f4), .int .i64 0, .int .i64 0, .int .i64 0, .int .i64 0, .int .i64 0, .int .i64 0, .int .i64 0, .int .i64 0, .bool false]) ?_ 5 _ rfl; (with_reducible repeat (first | refine blk_drewN ?_ _ | refine blk_drew ?_ | refine blk_alloc ?_ _)); refine blk_put (cs := #[.string ((rd_T54 l0 x14_1).f0), .int .i64 ((rd_T54 l0 x14_1).f1), .int .i64 ((rd_T54 l0 x14_1).f2), .int .i64 ((rd_T54 l0 x14_1).f3), .int .i64 0, .int .i64 0, .int .i64 0, .int .i64 0, .int .i64 0, .int .i64 0, .int .i64 0, .int .i64 0, .int .i64 0, .bool false]) ?_ 4 _ rfl; (with_reducible repeat (first | refine blk_drewN ?_ _ | refine blk_drew ?_ | refine blk_alloc ?_ _)); refine blk_put (cs := #[.string ((rd_T54 l0 x14_1).f0), .int .i64 ((rd_T54 l0 x14_1).f1), .int .i64 ((rd_T54 l0 x14_1).f2), .int .i64 0, .int .i64 0, .int .i64 0, .int .i64 0, .int .i64 0, .int .i64 0, .int .i64 0, .int .i64 0, .int .i64 0, .int .i64 0, .bool false]) ?_ 3 _ rfl; (with_reducible repeat (first | refine blk_drewN ?_ _ | refine blk_drew ?_ | refine blk_alloc ?_ _)); refine blk_put (cs := #[.string ((rd_T54 l0 x14_1).f0), .int .i64 ((rd_T54 l0 x14_1).f1), .int .i64 0, .int .i64 0, .int .i64 0, .int .i64 0, .int .i64 0, .int .i64 0, .int .i64 0, .int .i64 0, .int .i64 0, .int .i64 0, .int .i64 0, .bool false]) ?_ 2 _ rfl; (with_reducible repeat (first | refine blk_drewN ?_ _ | refine blk_drew ?_ | refine blk_alloc ?_ _)); refine blk_put (cs := #[.string ((rd_T54 l0 x14_1).f0), .int .i64 0, .int .i64 0, .int .i64 0, .int .i64 0, .int .i64 0, .int .i64 0, .int .i64 0, .int .i64 0, .int .i64 0, .int .i64 0, .int .i64 0, .int .i64 0, .bool false]) ?_ 1 _ rfl; (with_reducible repeat (first | refine blk_drewN ?_ _ | refine blk_drew ?_ | refine blk_alloc ?_ _)); refine blk_put (cs := #[.string (⟨#[]⟩ : ByteArray), .int .i64 0, .int .i64 0, .int .i64 0, .int .i64 0, .int .i64 0, .int .i64 0, .int .i64 0, .int .i64 0, .int .i64 0, .int .i64 0, .int .i64 0, .int .i64 0, .bool false]) ?_ 0 _ rfl; (with_reducible repeat (first | refine blk_drewN ?_ _ | refine blk_drew ?_ | refine blk_alloc ?_ _)); exact BK152.out) hb); replace HB := Aside0.mk (below_step (dL1_ HB GE152) hb)))
        go_ret
        exact ⟨tE_, dL1_ HB GE152⟩
      ·rw [if_neg c5] at H
       exact absurd H (by simp)
     ·rw [if_neg c4] at H
      exact absurd H (by simp)
    ·rw [if_neg c3] at H
     have c3b0 : decide (x14_1 < (l0.length : Int)) = false := decide_eq_false c3
     clear c3
     have H' := Aside0.mk H
     clear H
     go_wp2
     go_loopg [24] k1 (fun kq v24 w' => ∃ (x24_2 : Int), v24 = .int .i64 x24_2 ∧ Aside0 (fleet_ValidateModels.l1 kq l0 l0 (l0.length : Int) x24_2 = some r) ∧ Aside0 (kq ≤ k1) ∧ Aside0 (Below w.heap.size w w'))
     case atStart => exact ⟨(0), tS_, H', ⟨Nat.le_refl _⟩, ⟨dL_ HB⟩⟩
     case round =>
      clear H'
      try clear c2
      try clear c2b0
      try clear c2b1
      try clear c3
      try clear c3b0
      try clear c4
      try clear c5
      obtain ⟨x24_2, rfl, HA, HK2, HB⟩ := hrel
      cases gk with
      | zero => exact absurd HA.out (by simp [fleet_ValidateModels.l1])
      | succ k2 =>
       have H := HA.out
       clear HA
       simp only [fleet_ValidateModels.l1] at H
       by_cases c14 : x24_2 < (l0.length : Int)
       ·rw [if_pos c14] at H
        have c14b0 : decide (x24_2 < (l0.length : Int)) = true := decide_eq_true c14
        clear c14
        by_cases c15 : 0 ≤ x24_2
        ·rw [if_pos c15] at H
         have c15b0 : decide (0 ≤ x24_2) = true := decide_eq_true c15
         clear c15
         by_cases c16 : x24_2 < (l0.length : Int)
         ·rw [if_pos c16] at H
          have c16b0 : decide (x24_2 < (l0.length : Int)) = true := decide_eq_true c16
          clear c16
          have c17b0 := eq_true (of_decide_eq_true tW_ : 0 ≤ x24_2)
          by_cases c18 : x24_2 ≤ (l0.length : Int)
          ·rw [if_pos c18] at H
           have c18b0 := eq_true c18
           have c18b1 : decide (x24_2 ≤ (l0.length : Int)) = true := decide_eq_true c18
           clear c18
           obtain ⟨y156, hy156⟩ : ∃ y_ : List (S54), y_ = (l0.take (x24_2 : Int).toNat) := ⟨_, rfl⟩
           replace H : (fleet_ValidateModels.l2 k2 l0 l0 (l0.length : Int) x24_2 y156 (y156.length : Int) 0 ((rd_T54 l0 x24_2).f0) ((rd_T54 l0 x24_2).f1) ((rd_T54 l0 x24_2).f2) ((rd_T54 l0 x24_2).f3) ((rd_T54 l0 x24_2).f4) ((rd_T54 l0 x24_2).f5) ((rd_T54 l0 x24_2).f6) ((rd_T54 l0 x24_2).f7) ((rd_T54 l0 x24_2).f8) ((rd_T54 l0 x24_2).f9) ((rd_T54 l0 x24_2).f10) ((rd_T54 l0 x24_2).f11) ((rd_T54 l0 x24_2).f12) ((rd_T54 l0 x24_2).f13)) = some r := by first | (rw [hy156]; with_reducible exact H) | (have H2_ := (Option.bind_some _ _).symm.trans H; rw [hy156]; with_reducible exact H2_) | (have H2_ := (Option.bind_some _ _).symm.trans H; with_reducible exact H2_) | with_reducible exact H | (rw [hy156]; exact H) | exact H
           have Ny156 := Aside0.mk hy156
           clear hy156
           have H' := Aside0.mk H
           clear H
           have p154 : 0 ≤ (x24_2 : Int) := of_decide_eq_true tW_
           have q154 : x24_2 < (l0.length : Int) := of_decide_eq_true tW_
           obtain ⟨ad154, e154, hx154_0, hx154_1, hx154_2, hx154_3, hx154_4, hx154_5, hx154_6, hx154_7, hx154_8, hx154_9, hx154_10, hx154_11, hx154_12, hx154_13⟩ := at_T54 HR0.out x24_2 p154 q154
           cases e154
           replace hx154_0 := bc_ HB hx154_0
           replace hx154_1 := bc_ HB hx154_1
           replace hx154_2 := bc_ HB hx154_2
           replace hx154_3 := bc_ HB hx154_3
           replace hx154_4 := bc_ HB hx154_4
           replace hx154_5 := bc_ HB hx154_5
           replace hx154_6 := bc_ HB hx154_6
           replace hx154_7 := bc_ HB hx154_7
           replace hx154_8 := bc_ HB hx154_8
           replace hx154_9 := bc_ HB hx154_9
           replace hx154_10 := bc_ HB hx154_10
           replace hx154_11 := bc_ HB hx154_11
           replace hx154_12 := bc_ HB hx154_12
           replace hx154_13 := bc_ HB hx154_13
           replace p154 := eq_true p154
           replace q154 := eq_true q154
           go_wp2_with (first | ((with_reducible refine gate_dst (N := 6) rfl ?_); refine box_event ?hg (N := 6) ?hd (cs := #[.string (⟨#[]⟩ : ByteArray), .int .i64 0, .int .i64 0, .int .i64 0, .int .i64 0, .int .i64 0, .int .i64 0, .int .i64 0, .int .i64 0, .int .i64 0, .int .i64 0, .int .i64 0, .int .i64 0, .bool false]) (t := 54) ?hr ?_; (case hd => rfl); (case hg => rfl); (case hr => first | (go_simp; done) | (go_simp; rfl)); intro gb155 hg w19 hbox hb; have BK155 := Aside0.mk (hbox); have GW155 := Aside0.mk ((dS_ hg (dL_ HB) : w.heap.size ≤ gb155)); have GE155 := Aside0.mk ((dS_ hg (dL_ HB) : w.heap.size ≤ gb155)); replace HB := Aside0.mk (below_step (dL_ HB) hb); clear hb hbox hg; obtain ⟨hcz20_0, hcz20_1, hcz20_2, hcz20_3, hcz20_4, hcz20_5, hcz20_6, hcz20_7, hcz20_8, hcz20_9, hcz20_10, hcz20_11, hcz20_12, hcz20_13, hfz20_0, hfz20_1, hfz20_2, hfz20_3, hfz20_4, hfz20_5, hfz20_6, hfz20_7, hfz20_8, hfz20_9, hfz20_10, hfz20_11, hfz20_12, hfz20_13⟩ := cs14_ BK155.out) | ((with_reducible refine gate_store (t := 54) (p := 6) rfl ?_); refine store_event (t := 54) (p := 6) (v := ?vo_w21) (w1 := ((((((((((((((w19.setCell ⟨gb155, 0, none⟩ (.string ((rd_T54 l0 x24_2).f0))).setCell ⟨gb155, 1, none⟩ (.int .i64 ((rd_T54 l0 x24_2).f1))).setCell ⟨gb155, 2, none⟩ (.int .i64 ((rd_T54 l0 x24_2).f2))).setCell ⟨gb155, 3, none⟩ (.int .i64 ((rd_T54 l0 x24_2).f3))).setCell ⟨gb155, 4, none⟩ (.int .i64 ((rd_T54 l0 x24_2).f4))).setCell ⟨gb155, 5, none⟩ (.int .i64 ((rd_T54 l0 x24_2).f5))).setCell ⟨gb155, 6, none⟩ (.int .i64 ((rd_T54 l0 x24_2).f6))).setCell ⟨gb155, 7, none⟩ (.int .i64 ((rd_T54 l0 x24_2).f7))).setCell ⟨gb155, 8, none⟩ (.int .i64 ((rd_T54 l0 x24_2).f8))).setCell ⟨gb155, 9, none⟩ (.int .i64 ((rd_T54 l0 x24_2).f9))).setCell ⟨gb155, 10, none⟩ (.int .i64 ((rd_T54 l0 x24_2).f10))).setCell ⟨gb155, 11, none⟩ (.int .i64 ((rd_T54 l0 x24_2).f11))).setCell ⟨gb155, 12, none⟩ (.int .i64 ((rd_T54 l0 x24_2).f12))).setCell ⟨gb155, 13, none⟩ (.bool ((rd_T54 l0 x24_2).f13)))) ?hg ?ho ?hn ?hr ?_; (case ho => rfl); (case hg => rfl); (case hn => rfl); (case hr => first | (go_simp; done) | (go_simp; rfl)); intro w21 hw; have n0_ : Aside0 (w21.heap[gb155]? = some (.cells #[.string ((rd_T54 l0 x24_2).f0), .int .i64 ((rd_T54 l0 x24_2).f1), .int .i64 ((rd_T54 l0 x24_2).f2), .int .i64 ((rd_T54 l0 x24_2).f3), .int .i64 ((rd_T54 l0 x24_2).f4), .int .i64 ((rd_T54 l0 x24_2).f5), .int .i64 ((rd_T54 l0 x24_2).f6), .int .i64 ((rd_T54 l0 x24_2).f7), .int .i64 ((rd_T54 l0 x24_2).f8), .int .i64 ((rd_T54 l0 x24_2).f9), .int .i64 ((rd_T54 l0 x24_2).f10), .int .i64 ((rd_T54 l0 x24_2).f11), .int .i64 ((rd_T54 l0 x24_2).f12), .bool ((rd_T54 l0 x24_2).f13)] 54 (0, 0))) := ⟨(by rw [hw]; exact (by (with_reducible repeat (first | refine blk_drewN ?_ _ | refine blk_drew ?_ | refine blk_alloc ?_ _)); refine blk_put (cs := #[.string ((rd_T54 l0 x24_2).f0), .int .i64 ((rd_T54 l0 x24_2).f1), .int .i64 ((rd_T54 l0 x24_2).f2), .int .i64 ((rd_T54 l0 x24_2).f3), .int .i64 ((rd_T54 l0 x24_2).f4), .int .i64 ((rd_T54 l0 x24_2).f5), .int .i64 ((rd_T54 l0 x24_2).f6), .int .i64 ((rd_T54 l0 x24_2).f7), .int .i64 ((rd_T54 l0 x24_2).f8), .int .i64 ((rd_T54 l0 x24_2).f9), .int .i64 ((rd_T54 l0 x24_2).f10), .int .i64 ((rd_T54 l0 x24_2).f11), .int .i64 ((rd_T54 l0 x24_2).f12), .bool false]) ?_ 13 _ rfl; (with_reducible repeat (first | refine blk_drewN ?_ _ | refine blk_drew ?_ | refine blk_alloc ?_ _)); refine blk_put (cs := #[.string ((rd_T54 l0 x24_2).f0), .int .i64 ((rd_T54 l0 x24_2).f1), .int .i64 ((rd_T54 l0 x24_2).f2), .int .i64 ((rd_T54 l0 x24_2).f3), .int .i64 ((rd_T54 l0 x24_2).f4), .int .i64 ((rd_T54 l0 x24_2).f5), .int .i64 ((rd_T54 l0 x24_2).f6), .int .i64 ((rd_T54 l0 x24_2).f7), .int .i64 ((rd_T54 l0 x24_2).f8), .int .i64 ((rd_T54 l0 x24_2).f9), .int .i64 ((rd_T54 l0 x24_2).f10), .int .i64 ((rd_T54 l0 x24_2).f11), .int .i64 0, .bool false]) ?_ 12 _ rfl; (with_reducible repeat (first | refine blk_drewN ?_ _ | refine blk_drew ?_ | refine blk_alloc ?_ _)); refine blk_put (cs := #[.string ((rd_T54 l0 x24_2).f0), .int .i64 ((rd_T54 l0 x24_2).f1), .int .i64 ((rd_T54 l0 x24_2).f2), .int .i64 ((rd_T54 l0 x24_2).f3), .int .i64 ((rd_T54 l0 x24_2).f4), .int .i64 ((rd_T54 l0 x24_2).f5), .int .i64 ((rd_T54 l0 x24_2).f6), .int .i64 ((rd_T54 l0 x24_2).f7), .int .i64 ((rd_T54 l0 x24_2).f8), .int .i64 ((rd_T54 l0 x24_2).f9), .int .i64 ((rd_T54 l0 x24_2).f10), .int .i64 0, .int .i64 0, .bool false]) ?_ 11 _ rfl; (with_reducible repeat (first | refine blk_drewN ?_ _ | refine blk_drew ?_ | refine blk_alloc ?_ _)); refine blk_put (cs := #[.string ((rd_T54 l0 x24_2).f0), .int .i64 ((rd_T54 l0 x24_2).f1), .int .i64 ((rd_T54 l0 x24_2).f2), .int .i64 ((rd_T54 l0 x24_2).f3), .int .i64 ((rd_T54 l0 x24_2).f4), .int .i64 ((rd_T54 l0 x24_2).f5), .int .i64 ((rd_T54 l0 x24_2).f6), .int .i64 ((rd_T54 l0 x24_2).f7), .int .i64 ((rd_T54 l0 x24_2).f8), .int .i64 ((rd_T54 l0 x24_2).f9), .int .i64 0, .int .i64 0, .int .i64 0, .bool false]) ?_ 10 _ rfl; (with_reducible repeat (first | refine blk_drewN ?_ _ | refine blk_drew ?_ | refine blk_alloc ?_ _)); refine blk_put (cs := #[.string ((rd_T54 l0 x24_2).f0), .int .i64 ((rd_T54 l0 x24_2).f1), .int .i64 ((rd_T54 l0 x24_2).f2), .int .i64 ((rd_T54 l0 x24_2).f3), .int .i64 ((rd_T54 l0 x24_2).f4), .int .i64 ((rd_T54 l0 x24_2).f5), .int .i64 ((rd_T54 l0 x24_2).f6), .int .i64 ((rd_T54 l0 x24_2).f7), .int .i64 ((rd_T54 l0 x24_2).f8), .int .i64 0, .int .i64 0, .int .i64 0, .int .i64 0, .bool false]) ?_ 9 _ rfl; (with_reducible repeat (first | refine blk_drewN ?_ _ | refine blk_drew ?_ | refine blk_alloc ?_ _)); refine blk_put (cs := #[.string ((rd_T54 l0 x24_2).f0), .int .i64 ((rd_T54 l0 x24_2).f1), .int .i64 ((rd_T54 l0 x24_2).f2), .int .i64 ((rd_T54 l0 x24_2).f3), .int .i64 ((rd_T54 l0 x24_2).f4), .int .i64 ((rd_T54 l0 x24_2).f5), .int .i64 ((rd_T54 l0 x24_2).f6), .int .i64 ((rd_T54 l0 x24_2).f7), .int .i64 0, .int .i64 0, .int .i64 0, .int .i64 0, .int .i64 0, .bool false]) ?_ 8 _ rfl; (with_reducible repeat (first | refine blk_drewN ?_ _ | refine blk_drew ?_ | refine blk_alloc ?_ _)); refine blk_put (cs := #[.string ((rd_T54 l0 x24_2).f0), .int .i64 ((rd_T54 l0 x24_2).f1), .int .i64 ((rd_T54 l0 x24_2).f2), .int .i64 ((rd_T54 l0 x24_2).f3), .int .i64 ((rd_T54 l0 x24_2).f4), .int .i64 ((rd_T54 l0 x24_2).f5), .int .i64 ((rd_T54 l0 x24_2).f6), .int .i64 0, .int .i64 0, .int .i64 0, .int .i64 0, .int .i64 0, .int .i64 0, .bool false]) ?_ 7 _ rfl; (with_reducible repeat (first | refine blk_drewN ?_ _ | refine blk_drew ?_ | refine blk_alloc ?_ _)); refine blk_put (cs := #[.string ((rd_T54 l0 x24_2).f0), .int .i64 ((rd_T54 l0 x24_2).f1), .int .i64 ((rd_T54 l0 x24_2).f2), .int .i64 ((rd_T54 l0 x24_2).f3), .int .i64 ((rd_T54 l0 x24_2).f4), .int .i64 ((rd_T54 l0 x24_2).f5), .int .i64 0, .int .i64 0, .int .i64 0, .int .i64 0, .int .i64 0, .int .i64 0, .int .i64 0, .bool false]) ?_ 6 _ rfl; (with_reducible repeat (first | refine blk_drewN ?_ _ | refine blk_drew ?_ | refine blk_alloc ?_ _)); refine blk_put (cs := #[.string ((rd_T54 l0 x24_2).f0), .int .i64 ((rd_T54 l0 x24_2).f1), .int .i64 ((rd_T54 l0 x24_2).f2), .int .i64 ((rd_T54 l0 x24_2).f3), .int .i64 ((rd_T54 l0 x24_2).f4), .int .i64 0, .int .i64 0, .int .i64 0, .int .i64 0, .int .i64 0, .int .i64 0, .int .i64 0, .int .i64 0, .bool false]) ?_ 5 _ rfl; (with_reducible repeat (first | refine blk_drewN ?_ _ | refine blk_drew ?_ | refine blk_alloc ?_ _)); refine blk_put (cs := #[.string ((rd_T54 l0 x24_2).f0), .int .i64 ((rd_T54 l0 x24_2).f1), .int .i64 ((rd_T54 l0 x24_2).f2), .int .i64 ((rd_T54 l0 x24_2).f3), .int .i64 0, .int .i64 0, .int .i64 0, .int .i64 0, .int .i64 0, .int .i64 0, .int .i64 0, .int .i64 0, .int .i64 0, .bool false]) ?_ 4 _ rfl; (with_reducible repeat (first | refine blk_drewN ?_ _ | refine blk_drew ?_ | refine blk_alloc ?_ _)); refine blk_put (cs := #[.string ((rd_T54 l0 x24_2).f0), .int .i64 ((rd_T54 l0 x24_2).f1), .int .i64 ((rd_T54 l0 x24_2).f2), .int .i64 0, .int .i64 0, .int .i64 0, .int .i64 0, .int .i64 0, .int .i64 0, .int .i64 0, .int .i64 0, .int .i64 0, .int .i64 0, .bool false]) ?_ 3 _ rfl; (with_reducible repeat (first | refine blk_drewN ?_ _ | refine blk_drew ?_ | refine blk_alloc ?_ _)); refine blk_put (cs := #[.string ((rd_T54 l0 x24_2).f0), .int .i64 ((rd_T54 l0 x24_2).f1), .int .i64 0, .int .i64 0, .int .i64 0, .int .i64 0, .int .i64 0, .int .i64 0, .int .i64 0, .int .i64 0, .int .i64 0, .int .i64 0, .int .i64 0, .bool false]) ?_ 2 _ rfl; (with_reducible repeat (first | refine blk_drewN ?_ _ | refine blk_drew ?_ | refine blk_alloc ?_ _)); refine blk_put (cs := #[.string ((rd_T54 l0 x24_2).f0), .int .i64 0, .int .i64 0, .int .i64 0, .int .i64 0, .int .i64 0, .int .i64 0, .int .i64 0, .int .i64 0, .int .i64 0, .int .i64 0, .int .i64 0, .int .i64 0, .bool false]) ?_ 1 _ rfl; (with_reducible repeat (first | refine blk_drewN ?_ _ | refine blk_drew ?_ | refine blk_alloc ?_ _)); refine blk_put (cs := #[.string (⟨#[]⟩ : ByteArray), .int .i64 0, .int .i64 0, .int .i64 0, .int .i64 0, .int .i64 0, .int .i64 0, .int .i64 0, .int .i64 0, .int .i64 0, .int .i64 0, .int .i64 0, .int .i64 0, .bool false]) ?_ 0 _ rfl; (with_reducible repeat (first | refine blk_drewN ?_ _ | refine blk_drew ?_ | refine blk_alloc ?_ _)); exact BK155.out))⟩; have n1_ : Aside0 (Below w.heap.size w w21) := ⟨(by rw [hw]; exact (dL1_ HB GE155))⟩; clear hw; clear BK155; clear HB; have BK155 := n0_; have HB := n1_; clear n0_ n1_; have q22 : (x24_2 : Int) ≤ ((l0.length : Int) : Int) := of_decide_eq_true tW_; obtain ⟨i022, hi022, _, hsz22, _⟩ := info_parts info54; have hroom22 : l0.length ≤ c0 := HC0.out; have hC22 : Kd.C k54 _ (some ad154) l0.length l0 := HR0.out; have hcut22 := cut_to (P := Try.prog) 22 54 .i64 Try.underlying22 hi022 (some ad154) l0.length c0 x24_2 (of_decide_eq_true tW_) q22 hroom22; have hr22 := Kd.C_take (m := (x24_2 : Int).toNat) hC22 (by omega); have hy22 : y156.length = (x24_2 : Int).toNat := (by rw [Ny156.out, List.length_take]; omega); rw [← Ny156.out] at hr22; rw [← hy22] at hcut22; have HR159 := Aside0.mk hr22; have HC159 := Aside0.mk (show y156.length ≤ c0 from by omega); clear hr22 hC22 hroom22 hi022 hsz22; have KY22 := Aside0.mk hy22; clear hy22; replace q22 := eq_true q22))
           go_loopg [33] k2 (fun kq v33 w' => ∃ (x33_3 : Int), v33 = .int .i64 x33_3 ∧ Aside0 (fleet_ValidateModels.l2 kq l0 l0 (l0.length : Int) x24_2 y156 (y156.length : Int) x33_3 ((rd_T54 l0 x24_2).f0) ((rd_T54 l0 x24_2).f1) ((rd_T54 l0 x24_2).f2) ((rd_T54 l0 x24_2).f3) ((rd_T54 l0 x24_2).f4) ((rd_T54 l0 x24_2).f5) ((rd_T54 l0 x24_2).f6) ((rd_T54 l0 x24_2).f7) ((rd_T54 l0 x24_2).f8) ((rd_T54 l0 x24_2).f9) ((rd_T54 l0 x24_2).f10) ((rd_T54 l0 x24_2).f11) ((rd_T54 l0 x24_2).f12) ((rd_T54 l0 x24_2).f13) = some r) ∧ Aside0 (kq ≤ k2) ∧ Aside0 (w'.heap[gb155]? = some (.cells #[.string ((rd_T54 l0 x24_2).f0), .int .i64 ((rd_T54 l0 x24_2).f1), .int .i64 ((rd_T54 l0 x24_2).f2), .int .i64 ((rd_T54 l0 x24_2).f3), .int .i64 ((rd_T54 l0 x24_2).f4), .int .i64 ((rd_T54 l0 x24_2).f5), .int .i64 ((rd_T54 l0 x24_2).f6), .int .i64 ((rd_T54 l0 x24_2).f7), .int .i64 ((rd_T54 l0 x24_2).f8), .int .i64 ((rd_T54 l0 x24_2).f9), .int .i64 ((rd_T54 l0 x24_2).f10), .int .i64 ((rd_T54 l0 x24_2).f11), .int .i64 ((rd_T54 l0 x24_2).f12), .bool ((rd_T54 l0 x24_2).f13)] 54 (0, 0))) ∧ Aside0 (Below w.heap.size w w'))
           case atStart => exact ⟨(0), tS_, H', ⟨Nat.le_refl _⟩, ⟨dB_ BK155⟩, ⟨dL1_ HB GE155⟩⟩
           case round =>
            clear H'
            try clear c2
            try clear c2b0
            try clear c2b1
            try clear c3
            try clear c3b0
            try clear c4
            try clear c5
            try clear c14
            try clear c14b0
            try clear c15
            try clear c15b0
            try clear c16
            try clear c16b0
            try clear c17b0
            try clear c18
            try clear c18b0
            try clear c18b1
            try clear q22
            try clear hcz20_0
            try clear hcz20_1
            try clear hcz20_10
            try clear hcz20_11
            try clear hcz20_12
            try clear hcz20_13
            try clear hcz20_2
            try clear hcz20_3
            try clear hcz20_4
            try clear hcz20_5
            try clear hcz20_6
            try clear hcz20_7
            try clear hcz20_8
            try clear hcz20_9
            try clear hfz20_0
            try clear hfz20_1
            try clear hfz20_10
            try clear hfz20_11
            try clear hfz20_12
            try clear hfz20_13
            try clear hfz20_2
            try clear hfz20_3
            try clear hfz20_4
            try clear hfz20_5
            try clear hfz20_6
            try clear hfz20_7
            try clear hfz20_8
            try clear hfz20_9
            try clear hx154_0
            try clear hx154_1
            try clear hx154_10
            try clear hx154_11
            try clear hx154_12
            try clear hx154_13
            try clear hx154_2
            try clear hx154_3
            try clear hx154_4
            try clear hx154_5
            try clear hx154_6
            try clear hx154_7
            try clear hx154_8
            try clear hx154_9
            try clear p154
            try clear q154
            try clear q22
            obtain ⟨x33_3, rfl, HA, HK3, BK155, HB⟩ := hrel
            cases gk with
            | zero => exact absurd HA.out (by simp [fleet_ValidateModels.l2])
            | succ k3 =>
             have H := HA.out
             clear HA
             simp only [fleet_ValidateModels.l2] at H
             by_cases c23 : x33_3 < (y156.length : Int)
             ·rw [if_pos c23] at H
              have c23b0 : decide (x33_3 < (y156.length : Int)) = true := decide_eq_true c23
              clear c23
              by_cases c24 : 0 ≤ x33_3
              ·rw [if_pos c24] at H
               have c24b0 : decide (0 ≤ x33_3) = true := decide_eq_true c24
               clear c24
               by_cases c25 : x33_3 < (y156.length : Int)
               ·rw [if_pos c25] at H
                have c25b0 : decide (x33_3 < (y156.length : Int)) = true := decide_eq_true c25
                clear c25
                by_cases c26 : ((rd_T54 y156 x33_3).f0).toList = ((rd_T54 l0 x24_2).f0).toList
                ·rw [if_pos c26] at H
                 have c26b0 : (((rd_T54 y156 x33_3).f0).toList == ((rd_T54 l0 x24_2).f0).toList) = true := beq_iff_eq.mpr c26
                 have c26b1 : (((rd_T54 y156 x33_3).f0).toList != ((rd_T54 l0 x24_2).f0).toList) = false := bne_eq_false_iff_eq.mpr c26
                 clear c26
                 obtain rfl := Option.some.inj H
                 have p160 : 0 ≤ (x33_3 : Int) := of_decide_eq_true tW_
                 have q160 : x33_3 < (y156.length : Int) := of_decide_eq_true tW_
                 obtain ⟨ad160, e160, hx160_0, hx160_1, hx160_2, hx160_3, hx160_4, hx160_5, hx160_6, hx160_7, hx160_8, hx160_9, hx160_10, hx160_11, hx160_12, hx160_13⟩ := at_T54 HR159.out x33_3 p160 q160
                 obtain rfl : ad154 = ad160 := (by injection e160)
                 replace hx160_0 := bc_ HB hx160_0
                 replace hx160_1 := bc_ HB hx160_1
                 replace hx160_2 := bc_ HB hx160_2
                 replace hx160_3 := bc_ HB hx160_3
                 replace hx160_4 := bc_ HB hx160_4
                 replace hx160_5 := bc_ HB hx160_5
                 replace hx160_6 := bc_ HB hx160_6
                 replace hx160_7 := bc_ HB hx160_7
                 replace hx160_8 := bc_ HB hx160_8
                 replace hx160_9 := bc_ HB hx160_9
                 replace hx160_10 := bc_ HB hx160_10
                 replace hx160_11 := bc_ HB hx160_11
                 replace hx160_12 := bc_ HB hx160_12
                 replace hx160_13 := bc_ HB hx160_13
                 replace p160 := eq_true p160
                 replace q160 := eq_true q160
                 go_wp2_with (first | ((with_reducible refine gate_dst (N := 8) rfl ?_); refine box_event ?hg (N := 8) ?hd (cs := #[.string (⟨#[]⟩ : ByteArray), .int .i64 0, .int .i64 0, .int .i64 0, .int .i64 0, .int .i64 0, .int .i64 0, .int .i64 0, .int .i64 0, .int .i64 0, .int .i64 0, .int .i64 0, .int .i64 0, .bool false]) (t := 54) ?hr ?_; (case hd => rfl); (case hg => rfl); (case hr => first | (go_simp; done) | (go_simp; rfl)); intro gb161 hg w27 hbox hb; have BK161 := Aside0.mk (hbox); have GW161 := Aside0.mk ((dS_ hg (dL1_ HB GE155) : w.heap.size ≤ gb161)); have GE161 := Aside0.mk ((dS_ hg (dL1_ HB GE155) : w.heap.size ≤ gb161)); replace HB := Aside0.mk (below_step (dL1_ HB GE155) hb); have NB155_161 := Aside0.mk ((by rw [hg]; exact Nat.ne_of_lt (blk_lt (dB_ BK155)) : gb155 ≠ gb161)); have NB161_155 := Aside0.mk ((by rw [hg]; exact Nat.ne_of_gt (blk_lt (dB_ BK155)) : gb161 ≠ gb155)); replace BK155 := Aside0.mk (blk_below (g := gb155) (o := .cells #[.string ((rd_T54 l0 x24_2).f0), .int .i64 ((rd_T54 l0 x24_2).f1), .int .i64 ((rd_T54 l0 x24_2).f2), .int .i64 ((rd_T54 l0 x24_2).f3), .int .i64 ((rd_T54 l0 x24_2).f4), .int .i64 ((rd_T54 l0 x24_2).f5), .int .i64 ((rd_T54 l0 x24_2).f6), .int .i64 ((rd_T54 l0 x24_2).f7), .int .i64 ((rd_T54 l0 x24_2).f8), .int .i64 ((rd_T54 l0 x24_2).f9), .int .i64 ((rd_T54 l0 x24_2).f10), .int .i64 ((rd_T54 l0 x24_2).f11), .int .i64 ((rd_T54 l0 x24_2).f12), .bool ((rd_T54 l0 x24_2).f13)] 54 (0, 0)) (dB_ BK155) hb); clear hb hbox hg; have hnb28 := NB161_155.out; have hnc28 := NB155_161.out; obtain ⟨hcz29_0, hcz29_1, hcz29_2, hcz29_3, hcz29_4, hcz29_5, hcz29_6, hcz29_7, hcz29_8, hcz29_9, hcz29_10, hcz29_11, hcz29_12, hcz29_13, hfz29_0, hfz29_1, hfz29_2, hfz29_3, hfz29_4, hfz29_5, hfz29_6, hfz29_7, hfz29_8, hfz29_9, hfz29_10, hfz29_11, hfz29_12, hfz29_13⟩ := cs14_ BK161.out; obtain ⟨hcz30_0, hcz30_1, hcz30_2, hcz30_3, hcz30_4, hcz30_5, hcz30_6, hcz30_7, hcz30_8, hcz30_9, hcz30_10, hcz30_11, hcz30_12, hcz30_13, hfz30_0, hfz30_1, hfz30_2, hfz30_3, hfz30_4, hfz30_5, hfz30_6, hfz30_7, hfz30_8, hfz30_9, hfz30_10, hfz30_11, hfz30_12, hfz30_13⟩ := cs14_ BK155.out))
                 go_ret
                 exact ⟨tE_, dL2_ HB GE155 GE161⟩
                ·rw [if_neg c26] at H
                 have c26b0 : (((rd_T54 y156 x33_3).f0).toList == ((rd_T54 l0 x24_2).f0).toList) = false := beq_eq_false_iff_ne.mpr c26
                 have c26b1 : (((rd_T54 y156 x33_3).f0).toList != ((rd_T54 l0 x24_2).f0).toList) = true := bne_iff_ne.mpr c26
                 have H' := Aside0.mk H
                 clear H
                 have p160 : 0 ≤ (x33_3 : Int) := of_decide_eq_true tW_
                 have q160 : x33_3 < (y156.length : Int) := of_decide_eq_true tW_
                 obtain ⟨ad160, e160, hx160_0, hx160_1, hx160_2, hx160_3, hx160_4, hx160_5, hx160_6, hx160_7, hx160_8, hx160_9, hx160_10, hx160_11, hx160_12, hx160_13⟩ := at_T54 HR159.out x33_3 p160 q160
                 obtain rfl : ad154 = ad160 := (by injection e160)
                 replace hx160_0 := bc_ HB hx160_0
                 replace hx160_1 := bc_ HB hx160_1
                 replace hx160_2 := bc_ HB hx160_2
                 replace hx160_3 := bc_ HB hx160_3
                 replace hx160_4 := bc_ HB hx160_4
                 replace hx160_5 := bc_ HB hx160_5
                 replace hx160_6 := bc_ HB hx160_6
                 replace hx160_7 := bc_ HB hx160_7
                 replace hx160_8 := bc_ HB hx160_8
                 replace hx160_9 := bc_ HB hx160_9
                 replace hx160_10 := bc_ HB hx160_10
                 replace hx160_11 := bc_ HB hx160_11
                 replace hx160_12 := bc_ HB hx160_12
                 replace hx160_13 := bc_ HB hx160_13
                 replace p160 := eq_true p160
                 replace q160 := eq_true q160
                 go_wp2_with (first | ((with_reducible refine gate_dst (N := 8) rfl ?_); refine box_event ?hg (N := 8) ?hd (cs := #[.string (⟨#[]⟩ : ByteArray), .int .i64 0, .int .i64 0, .int .i64 0, .int .i64 0, .int .i64 0, .int .i64 0, .int .i64 0, .int .i64 0, .int .i64 0, .int .i64 0, .int .i64 0, .int .i64 0, .bool false]) (t := 54) ?hr ?_; (case hd => rfl); (case hg => rfl); (case hr => first | (go_simp; done) | (go_simp; rfl)); intro gb161 hg w31 hbox hb; have BK161 := Aside0.mk (hbox); have GW161 := Aside0.mk ((dS_ hg (dL1_ HB GE155) : w.heap.size ≤ gb161)); have GE161 := Aside0.mk ((dS_ hg (dL1_ HB GE155) : w.heap.size ≤ gb161)); replace HB := Aside0.mk (below_step (dL1_ HB GE155) hb); have NB155_161 := Aside0.mk ((by rw [hg]; exact Nat.ne_of_lt (blk_lt (dB_ BK155)) : gb155 ≠ gb161)); have NB161_155 := Aside0.mk ((by rw [hg]; exact Nat.ne_of_gt (blk_lt (dB_ BK155)) : gb161 ≠ gb155)); replace BK155 := Aside0.mk (blk_below (g := gb155) (o := .cells #[.string ((rd_T54 l0 x24_2).f0), .int .i64 ((rd_T54 l0 x24_2).f1), .int .i64 ((rd_T54 l0 x24_2).f2), .int .i64 ((rd_T54 l0 x24_2).f3), .int .i64 ((rd_T54 l0 x24_2).f4), .int .i64 ((rd_T54 l0 x24_2).f5), .int .i64 ((rd_T54 l0 x24_2).f6), .int .i64 ((rd_T54 l0 x24_2).f7), .int .i64 ((rd_T54 l0 x24_2).f8), .int .i64 ((rd_T54 l0 x24_2).f9), .int .i64 ((rd_T54 l0 x24_2).f10), .int .i64 ((rd_T54 l0 x24_2).f11), .int .i64 ((rd_T54 l0 x24_2).f12), .bool ((rd_T54 l0 x24_2).f13)] 54 (0, 0)) (dB_ BK155) hb); clear hb hbox hg; have hnb32 := NB161_155.out; have hnc32 := NB155_161.out; obtain ⟨hcz33_0, hcz33_1, hcz33_2, hcz33_3, hcz33_4, hcz33_5, hcz33_6, hcz33_7, hcz33_8, hcz33_9, hcz33_10, hcz33_11, hcz33_12, hcz33_13, hfz33_0, hfz33_1, hfz33_2, hfz33_3, hfz33_4, hfz33_5, hfz33_6, hfz33_7, hfz33_8, hfz33_9, hfz33_10, hfz33_11, hfz33_12, hfz33_13⟩ := cs14_ BK161.out; obtain ⟨hcz34_0, hcz34_1, hcz34_2, hcz34_3, hcz34_4, hcz34_5, hcz34_6, hcz34_7, hcz34_8, hcz34_9, hcz34_10, hcz34_11, hcz34_12, hcz34_13, hfz34_0, hfz34_1, hfz34_2, hfz34_3, hfz34_4, hfz34_5, hfz34_6, hfz34_7, hfz34_8, hfz34_9, hfz34_10, hfz34_11, hfz34_12, hfz34_13⟩ := cs14_ BK155.out))
                 go_roundg k3
                 case measure => have := HK1.out; have := HK2.out; have := HK3.out; omega
                 case rel => exact ⟨(wrap64 (x33_3 + 1)), tS_, H', ⟨by have := HK1.out; have := HK2.out; have := HK3.out; omega⟩, ⟨dF14_ BK155 NB155_161⟩, ⟨dL2_ HB GE155 GE161⟩⟩
               ·rw [if_neg c25] at H
                exact absurd H (by simp)
              ·rw [if_neg c24] at H
               exact absurd H (by simp)
             ·rw [if_neg c23] at H
              have c23b0 : decide (x33_3 < (y156.length : Int)) = false := decide_eq_false c23
              clear c23
              have H' := Aside0.mk H
              clear H
              go_wp2
              go_roundg k3
              case measure => have := HK1.out; have := HK2.out; have := HK3.out; omega
              case rel => exact ⟨(wrap64 (x24_2 + 1)), tS_, H', ⟨by have := HK1.out; have := HK2.out; have := HK3.out; omega⟩, ⟨dL1_ HB GE155⟩⟩
          ·rw [if_neg c18] at H
           exact absurd H (by simp)
         ·rw [if_neg c16] at H
          exact absurd H (by simp)
        ·rw [if_neg c15] at H
         exact absurd H (by simp)
       ·rw [if_neg c14] at H
        have c14b0 : decide (x24_2 < (l0.length : Int)) = false := decide_eq_false c14
        clear c14
        obtain rfl := Option.some.inj H
        go_wp2
        go_ret
        exact ⟨tE_, dL_ HB⟩

end Go.Proofs.Ytgnahbjpockdmaa.Q
namespace Go.Proofs.Ytgnahbjpockdmaa.Q
open Go.RowKit Go.Proofs.YtgnahbjpockdmaaPrs Go.Proofs.YtgnahbjpockdmaaOwn Go.Proofs.YtgnahbjpockdmaaW.PrintWords Go.Proofs.YtgnahbjpockdmaaW.PrintLast Go.Proofs.YtgnahbjpockdmaaW.PrintMore
attribute [local go_sem] max2_int min2_int max_two min_two max_three min_three max_four min_four   -- for this text's walks alone
set_option linter.unusedVariables false
set_option linter.unusedSimpArgs false

/-! ### fleet_fits: function 59 -/
mutual
def fleet_fits.l0 : Nat → List (S54) → List Int → List Int → Int → Int → ByteArray → Int → Int → Int → Int → Int → Int → Int → Int → Int → Int → Int → Int → Bool → Option (Int)
  | 0, _, _, _, _, _, _, _, _, _, _, _, _, _, _, _, _, _, _, _ => none
  | k + 1, x0, x1, x14, x15, x16, x165000, x165001, x165002, x165003, x165004, x165005, x165006, x165007, x165008, x165009, x165010, x165011, x165012, x165013 => if x16 < x15 then (if 0 ≤ x16 then (if x16 < (x14.length : Int) then (if 0 ≤ (rd x14 x16) then (if (rd x14 x16) < (x0.length : Int) then (if ((rd_T54 x0 (rd x14 x16)).f1) = x165001 then (fleet_fits.l0 k x0 x1 x14 x15 (wrap64 (x16 + 1)) x165000 x165001 x165002 x165003 x165004 x165005 x165006 x165007 x165008 x165009 x165010 x165011 x165012 x165013) else (some 8)) else (none)) else (none)) else (none)) else (none)) else (if x165001 = 0 then (if x165003 = 0 then (fleet_fits.j1 k true) else (fleet_fits.j1 k false)) else (fleet_fits.j1 k (decide ((x1.length : Int) > 1))))
def fleet_fits.j1 : Nat → Bool → Option (Int)
  | 0, _ => none
  | k + 1, x46 => if x46 = true then (some 8) else (some 0)
end
def fleet_fits.f (k : Nat) (l0 : List (S54)) (l1 : List Int) : Option (Int) := if 0 < (l1.length : Int) then (if 0 ≤ (rd l1 0) then (if (rd l1 0) < (l0.length : Int) then (fleet_fits.l0 k l0 l1 l1 (l1.length : Int) 0 ((rd_T54 l0 (rd l1 0)).f0) ((rd_T54 l0 (rd l1 0)).f1) ((rd_T54 l0 (rd l1 0)).f2) ((rd_T54 l0 (rd l1 0)).f3) ((rd_T54 l0 (rd l1 0)).f4) ((rd_T54 l0 (rd l1 0)).f5) ((rd_T54 l0 (rd l1 0)).f6) ((rd_T54 l0 (rd l1 0)).f7) ((rd_T54 l0 (rd l1 0)).f8) ((rd_T54 l0 (rd l1 0)).f9) ((rd_T54 l0 (rd l1 0)).f10) ((rd_T54 l0 (rd l1 0)).f11) ((rd_T54 l0 (rd l1 0)).f12) ((rd_T54 l0 (rd l1 0)).f13)) else (none)) else (none)) else (none)
theorem fleet_fits.mono_l : ∀ k, (∀ y0 y1 y2 y3 y4 y5 y6 y7 y8 y9 y10 y11 y12 y13 y14 y15 y16 y17 y18, LeO (fleet_fits.l0 k y0 y1 y2 y3 y4 y5 y6 y7 y8 y9 y10 y11 y12 y13 y14 y15 y16 y17 y18) (fleet_fits.l0 (k + 1) y0 y1 y2 y3 y4 y5 y6 y7 y8 y9 y10 y11 y12 y13 y14 y15 y16 y17 y18)) ∧ (∀ y0, LeO (fleet_fits.j1 k y0) (fleet_fits.j1 (k + 1) y0))
  | 0 => ⟨fun _ _ _ _ _ _ _ _ _ _ _ _ _ _ _ _ _ _ _ r h => by simp [fleet_fits.l0] at h, fun _ r h => by simp [fleet_fits.j1] at h⟩
  | k + 1 => by
    obtain ⟨ih0, ih1⟩ := fleet_fits.mono_l k
    refine ⟨?_, ?_⟩
    · intro y0 y1 y2 y3 y4 y5 y6 y7 y8 y9 y10 y11 y12 y13 y14 y15 y16 y17 y18
      unfold fleet_fits.l0
      repeat' first
      | (with_reducible first | exact ih0 _ _ _ _ _ _ _ _ _ _ _ _ _ _ _ _ _ _ _ | exact ih1 _ | exact LeO.refl _ | exact LeO.none _ | refine LeO.ite ?_ ?_ | refine LeO.bind ?_ (fun _ => ?_))
      | exact ih0 _ _ _ _ _ _ _ _ _ _ _ _ _ _ _ _ _ _ _
      | exact ih1 _
      | exact LeO.none _
      | refine LeO.ite ?_ ?_
      | refine LeO.bind ?_ (fun _ => ?_)
    · intro y0
      unfold fleet_fits.j1
      repeat' first
      | (with_reducible first | exact ih0 _ _ _ _ _ _ _ _ _ _ _ _ _ _ _ _ _ _ _ | exact ih1 _ | exact LeO.refl _ | exact LeO.none _ | refine LeO.ite ?_ ?_ | refine LeO.bind ?_ (fun _ => ?_))
      | exact ih0 _ _ _ _ _ _ _ _ _ _ _ _ _ _ _ _ _ _ _
      | exact ih1 _
      | exact LeO.none _
      | refine LeO.ite ?_ ?_
      | refine LeO.bind ?_ (fun _ => ?_)
theorem fleet_fits.mono : ∀ a0 a1 k, LeO (fleet_fits.f k a0 a1) (fleet_fits.f (k + 1) a0 a1) := by
  intro a0 a1 k
  obtain ⟨ih0, ih1⟩ := fleet_fits.mono_l k
  unfold fleet_fits.f
  repeat' first
      | (with_reducible first | exact ih0 _ _ _ _ _ _ _ _ _ _ _ _ _ _ _ _ _ _ _ | exact ih1 _ | exact LeO.refl _ | exact LeO.none _ | refine LeO.ite ?_ ?_ | refine LeO.bind ?_ (fun _ => ?_))
      | exact ih0 _ _ _ _ _ _ _ _ _ _ _ _ _ _ _ _ _ _ _
      | exact ih1 _
      | exact LeO.none _
      | refine LeO.ite ?_ ?_
      | refine LeO.bind ?_ (fun _ => ?_)
set_option maxHeartbeats 8000000 in
set_option maxRecDepth 100000 in
theorem fleet_fits.calls (k : Nat) (A0 : Option Addr) (c0 : Nat) (l0 : List (S54)) (A1 : Option Addr) (c1 : Nat) (l1 : List Int) (r : Int) (w : World) (hr0 : Kd.C k54 w A0 l0.length l0) (hc0 : l0.length ≤ c0) (hr1 : Kd.C (Kd.int .i64) w A1 l1.length l1) (hc1 : l1.length ≤ c1) (h : fleet_fits.f k l0 l1 = some r) :
    Calls Try.prog 59 #[.slice A0 l0.length c0, .slice A1 l1.length c1] w fun e w' => e = .returned (.int .i64 r) ∧ Below w.heap.size w w' := by
 have hu54 := Try.underlying54
 have HR0 := Aside0.mk hr0
 have HC0 := Aside0.mk hc0
 clear hr0 hc0
 have HR1 := Aside0.mk hr1
 have HC1 := Aside0.mk hc1
 clear hr1 hc1
 have HB := Aside0.mk (Below.refl w.heap.size w)
 have H : (if 0 < (l1.length : Int) then (if 0 ≤ (rd l1 0) then (if (rd l1 0) < (l0.length : Int) then (fleet_fits.l0 k l0 l1 l1 (l1.length : Int) 0 ((rd_T54 l0 (rd l1 0)).f0) ((rd_T54 l0 (rd l1 0)).f1) ((rd_T54 l0 (rd l1 0)).f2) ((rd_T54 l0 (rd l1 0)).f3) ((rd_T54 l0 (rd l1 0)).f4) ((rd_T54 l0 (rd l1 0)).f5) ((rd_T54 l0 (rd l1 0)).f6) ((rd_T54 l0 (rd l1 0)).f7) ((rd_T54 l0 (rd l1 0)).f8) ((rd_T54 l0 (rd l1 0)).f9) ((rd_T54 l0 (rd l1 0)).f10) ((rd_T54 l0 (rd l1 0)).f11) ((rd_T54 l0 (rd l1 0)).f12) ((rd_T54 l0 (rd l1 0)).f13)) else (none)) else (none)) else (none)) = some r := h
 clear h
 by_cases c3 : 0 < (l1.length : Int)
 ·rw [if_pos c3] at H
  have c3b0 : decide (0 < (l1.length : Int)) = true := decide_eq_true c3
  have c3b1 : decide (0 < l1.length) = true := decide_eq_true (by omega)
  clear c3
  by_cases c4 : 0 ≤ (rd l1 0)
  ·rw [if_pos c4] at H
   have c4b0 : decide (0 ≤ (rd l1 0)) = true := decide_eq_true c4
   clear c4
   by_cases c5 : (rd l1 0) < (l0.length : Int)
   ·rw [if_pos c5] at H
    have c5b0 : decide ((rd l1 0) < (l0.length : Int)) = true := decide_eq_true c5
    clear c5
    have H' := Aside0.mk H
    clear H
    have p162 : 0 ≤ (0 : Int) := (by omega)
    have q162 : 0 < (l1.length : Int) := of_decide_eq_true tW_
    obtain ⟨ad162, e162, hx162_0⟩ := Kd.at_int HR1.out 0 p162 q162
    cases e162
    have qi162 : (0 < l1.length) = True := eq_true (by omega)
    (try rw [show ((0 : Int)).toNat = 0 from rfl] at hx162_0)
    (try rw [Addr.add_zero'] at hx162_0)
    replace p162 := eq_true p162
    replace q162 := eq_true q162
    have p163 : 0 ≤ ((rd l1 0) : Int) := of_decide_eq_true tW_
    have q163 : (rd l1 0) < (l0.length : Int) := of_decide_eq_true tW_
    obtain ⟨ad163, e163, hx163_0, hx163_1, hx163_2, hx163_3, hx163_4, hx163_5, hx163_6, hx163_7, hx163_8, hx163_9, hx163_10, hx163_11, hx163_12, hx163_13⟩ := at_T54 HR0.out (rd l1 0) p163 q163
    cases e163
    replace p163 := eq_true p163
    replace q163 := eq_true q163
    go_enter Try.func59, Try.ntmps59
    go_wp2_with (first | ((with_reducible refine gate_dst (N := 5) rfl ?_); (try (refine gate_guard (by rfl) ?_; dsimp only)); refine box_event ?hg (N := 5) ?hd (cs := #[.string (⟨#[]⟩ : ByteArray), .int .i64 0, .int .i64 0, .int .i64 0, .int .i64 0, .int .i64 0, .int .i64 0, .int .i64 0, .int .i64 0, .int .i64 0, .int .i64 0, .int .i64 0, .int .i64 0, .bool false]) (t := 54) ?hr ?_; (case hd => rfl); (case hg => rfl); (case hr => first | (go_simp; done) | (go_simp; rfl)); intro gb164 hg w6 hbox hb; have BK164 := Aside0.mk (hbox); have GW164 := Aside0.mk ((dS_ hg (dL_ HB) : w.heap.size ≤ gb164)); have GE164 := Aside0.mk ((dS_ hg (dL_ HB) : w.heap.size ≤ gb164)); replace HB := Aside0.mk (below_step (dL_ HB) hb); clear hb hbox hg; obtain ⟨hcz7_0, hcz7_1, hcz7_2, hcz7_3, hcz7_4, hcz7_5, hcz7_6, hcz7_7, hcz7_8, hcz7_9, hcz7_10, hcz7_11, hcz7_12, hcz7_13, hfz7_0, hfz7_1, hfz7_2, hfz7_3, hfz7_4, hfz7_5, hfz7_6, hfz7_7, hfz7_8, hfz7_9, hfz7_10, hfz7_11, hfz7_12, hfz7_13⟩ := cs14_ BK164.out))
    repeat (go_quiet (first | ((with_reducible refine gate_dst (N := 5) rfl ?_); (try (refine gate_guard (by rfl) ?_; dsimp only)); refine box_event ?hg (N := 5) ?hd (cs := #[.string (⟨#[]⟩ : ByteArray), .int .i64 0, .int .i64 0, .int .i64 0, .int .i64 0, .int .i64 0, .int .i64 0, .int .i64 0, .int .i64 0, .int .i64 0, .int .i64 0, .int .i64 0, .int .i64 0, .bool false]) (t := 54) ?hr ?_; (case hd => rfl); (case hg => rfl); (case hr => first | (go_simp; done) | (go_simp; rfl)); intro gb164 hg w6 hbox hb; have BK164 := Aside0.mk (hbox); have GW164 := Aside0.mk ((dS_ hg (dL_ HB) : w.heap.size ≤ gb164)); have GE164 := Aside0.mk ((dS_ hg (dL_ HB) : w.heap.size ≤ gb164)); replace HB := Aside0.mk (below_step (dL_ HB) hb); clear hb hbox hg; obtain ⟨hcz7_0, hcz7_1, hcz7_2, hcz7_3, hcz7_4, hcz7_5, hcz7_6, hcz7_7, hcz7_8, hcz7_9, hcz7_10, hcz7_11, hcz7_12, hcz7_13, hfz7_0, hfz7_1, hfz7_2, hfz7_3, hfz7_4, hfz7_5, hfz7_6, hfz7_7, hfz7_8, hfz7_9, hfz7_10, hfz7_11, hfz7_12, hfz7_13⟩ := cs14_ BK164.out)); try go_wp2_with (first | ((with_reducible refine gate_dst (N := 5) rfl ?_); (try (refine gate_guard (by rfl) ?_; dsimp only)); refine box_event ?hg (N := 5) ?hd (cs := #[.string (⟨#[]⟩ : ByteArray), .int .i64 0, .int .i64 0, .int .i64 0, .int .i64 0, .int .i64 0, .int .i64 0, .int .i64 0, .int .i64 0, .int .i64 0, .int .i64 0, .int .i64 0, .int .i64 0, .bool false]) (t := 54) ?hr ?_; (case hd => rfl); (case hg => rfl); (case hr => first | (go_simp; done) | (go_simp; rfl)); intro gb164 hg w6 hbox hb; have BK164 := Aside0.mk (hbox); have GW164 := Aside0.mk ((dS_ hg (dL_ HB) : w.heap.size ≤ gb164)); have GE164 := Aside0.mk ((dS_ hg (dL_ HB) : w.heap.size ≤ gb164)); replace HB := Aside0.mk (below_step (dL_ HB) hb); clear hb hbox hg; obtain ⟨hcz7_0, hcz7_1, hcz7_2, hcz7_3, hcz7_4, hcz7_5, hcz7_6, hcz7_7, hcz7_8, hcz7_9, hcz7_10, hcz7_11, hcz7_12, hcz7_13, hfz7_0, hfz7_1, hfz7_2, hfz7_3, hfz7_4, hfz7_5, hfz7_6, hfz7_7, hfz7_8, hfz7_9, hfz7_10, hfz7_11, hfz7_12, hfz7_13⟩ := cs14_ BK164.out)))
    go_loopg [16] k (fun kq v16 w' => ∃ (x16_1 : Int), v16 = .int .i64 x16_1 ∧ Aside0 (fleet_fits.l0 kq l0 l1 l1 (l1.length : Int) x16_1 ((rd_T54 l0 (rd l1 0)).f0) ((rd_T54 l0 (rd l1 0)).f1) ((rd_T54 l0 (rd l1 0)).f2) ((rd_T54 l0 (rd l1 0)).f3) ((rd_T54 l0 (rd l1 0)).f4) ((rd_T54 l0 (rd l1 0)).f5) ((rd_T54 l0 (rd l1 0)).f6) ((rd_T54 l0 (rd l1 0)).f7) ((rd_T54 l0 (rd l1 0)).f8) ((rd_T54 l0 (rd l1 0)).f9) ((rd_T54 l0 (rd l1 0)).f10) ((rd_T54 l0 (rd l1 0)).f11) ((rd_T54 l0 (rd l1 0)).f12) ((rd_T54 l0 (rd l1 0)).f13) = some r) ∧ Aside0 (kq ≤ k) ∧ Aside0 (w'.heap[gb164]? = some (.cells #[.string ((rd_T54 l0 (rd l1 0)).f0), .int .i64 ((rd_T54 l0 (rd l1 0)).f1), .int .i64 ((rd_T54 l0 (rd l1 0)).f2), .int .i64 ((rd_T54 l0 (rd l1 0)).f3), .int .i64 ((rd_T54 l0 (rd l1 0)).f4), .int .i64 ((rd_T54 l0 (rd l1 0)).f5), .int .i64 ((rd_T54 l0 (rd l1 0)).f6), .int .i64 ((rd_T54 l0 (rd l1 0)).f7), .int .i64 ((rd_T54 l0 (rd l1 0)).f8), .int .i64 ((rd_T54 l0 (rd l1 0)).f9), .int .i64 ((rd_T54 l0 (rd l1 0)).f10), .int .i64 ((rd_T54 l0 (rd l1 0)).f11), .int .i64 ((rd_T54 l0 (rd l1 0)).f12), .bool ((rd_T54 l0 (rd l1 0)).f13)] 54 (0, 0))) ∧ Aside0 (Below w.heap.size w w'))
    case atStart => exact ⟨(0), tS_, H', ⟨Nat.le_refl _⟩, ⟨by (with_reducible repeat (first | refine blk_drewN ?_ _ | refine blk_drew ?_ | refine blk_alloc ?_ _)); refine blk_put (cs := #[.string ((rd_T54 l0 (rd l1 0)).f0), .int .i64 ((rd_T54 l0 (rd l1 0)).f1), .int .i64 ((rd_T54 l0 (rd l1 0)).f2), .int .i64 ((rd_T54 l0 (rd l1 0)).f3), .int .i64 ((rd_T54 l0 (rd l1 0)).f4), .int .i64 ((rd_T54 l0 (rd l1 0)).f5), .int .i64 ((rd_T54 l0 (rd l1 0)).f6), .int .i64 ((rd_T54 l0 (rd l1 0)).f7), .int .i64 ((rd_T54 l0 (rd l1 0)).f8), .int .i64 ((rd_T54 l0 (rd l1 0)).f9), .int .i64 ((rd_T54 l0 (rd l1 0)).f10), .int .i64 ((rd_T54 l0 (rd l1 0)).f11), .int .i64 ((rd_T54 l0 (rd l1 0)).f12), .bool false]) ?_ 13 _ rfl; (with_reducible repeat (first | refine blk_drewN ?_ _ | refine blk_drew ?_ | refine blk_alloc ?_ _)); refine blk_put (cs := #[.string ((rd_T54 l0 (rd l1 0)).f0), .int .i64 ((rd_T54 l0 (rd l1 0)).f1), .int .i64 ((rd_T54 l0 (rd l1 0)).f2), .int .i64 ((rd_T54 l0 (rd l1 0)).f3), .int .i64 ((rd_T54 l0 (rd l1 0)).f4), .int .i64 ((rd_T54 l0 (rd l1 0)).f5), .int .i64 ((rd_T54 l0 (rd l1 0)).f6), .int .i64 ((rd_T54 l0 (rd l1 0)).f7), .int .i64 ((rd_T54 l0 (rd l1 0)).f8), .int .i64 ((rd_T54 l0 (rd l1 0)).f9), .int .i64 ((rd_T54 l0 (rd l1 0)).f10), .int .i64 ((rd_T54 l0 (rd l1 0)).f11), .int .i64 0, .bool false]) ?_ 12 _ rfl; (with_reducible repeat (first | refine blk_drewN ?_ _ | refine blk_drew ?_ | refine blk_alloc ?_ _)); refine blk_put (cs := #[.string ((rd_T54 l0 (rd l1 0)).f0), .int .i64 ((rd_T54 l0 (rd l1 0)).f1), .int .i64 ((rd_T54 l0 (rd l1 0)).f2), .int .i64 ((rd_T54 l0 (rd l1 0)).f3), .int .i64 ((rd_T54 l0 (rd l1 0)).f4), .int .i64 ((rd_T54 l0 (rd l1 0)).f5), .int .i64 ((rd_T54 l0 (rd l1 0)).f6), .int .i64 ((rd_T54 l0 (rd l1 0)).f7), .int .i64 ((rd_T54 l0 (rd l1 0)).f8), .int .i64 ((rd_T54 l0 (rd l1 0)).f9), .int .i64 ((rd_T54 l0 (rd l1 0)).f10), .int .i64 0, .int .i64 0, .bool false]) ?_ 11 _ rfl; (with_reducible repeat (first | refine blk_drewN ?_ _ | refine blk_drew ?_ | refine blk_alloc ?_ _)); refine blk_put (cs := #[.string ((rd_T54 l0 (rd l1 0)).f0), .int .i64 ((rd_T54 l0 (rd l1 0)).f1), .int .i64 ((rd_T54 l0 (rd l1 0)).f2), .int .i64 ((rd_T54 l0 (rd l1 0)).f3), .int .i64 ((rd_T54 l0 (rd l1 0)).f4), .int .i64 ((rd_T54 l0 (rd l1 0)).f5), .int .i64 ((rd_T54 l0 (rd l1 0)).f6), .int .i64 ((rd_T54 l0 (rd l1 0)).f7), .int .i64 ((rd_T54 l0 (rd l1 0)).f8), .int .i64 ((rd_T54 l0 (rd l1 0)).f9), .int .i64 0, .int .i64 0, .int .i64 0, .bool false]) ?_ 10 _ rfl; (with_reducible repeat (first | refine blk_drewN ?_ _ | refine blk_drew ?_ | refine blk_alloc ?_ _)); refine blk_put (cs := #[.string ((rd_T54 l0 (rd l1 0)).f0), .int .i64 ((rd_T54 l0 (rd l1 0)).f1), .int .i64 ((rd_T54 l0 (rd l1 0)).f2), .int .i64 ((rd_T54 l0 (rd l1 0)).f3), .int .i64 ((rd_T54 l0 (rd l1 0)).f4), .int .i64 ((rd_T54 l0 (rd l1 0)).f5), .int .i64 ((rd_T54 l0 (rd l1 0)).f6), .int .i64 ((rd_T54 l0 (rd l1 0)).f7), .int .i64 ((rd_T54 l0 (rd l1 0)).f8), .int .i64 0, .int .i64 0, .int .i64 0, .int .i64 0, .bool false]) ?_ 9 _ rfl; (with_reducible repeat (first | refine blk_drewN ?_ _ | refine blk_drew ?_ | refine blk_alloc ?_ _)); refine blk_put (cs := #[.string ((rd_T54 l0 (rd l1 0)).f0), .int .i64 ((rd_T54 l0 (rd l1 0)).f1), .int .i64 ((rd_T54 l0 (rd l1 0)).f2), .int .i64 ((rd_T54 l0 (rd l1 0)).f3), .int .i64 ((rd_T54 l0 (rd l1 0)).f4), .int .i64 ((rd_T54 l0 (rd l1 0)).f5), .int .i64 ((rd_T54 l0 (rd l1 0)).f6), .int .i64 ((rd_T54 l0 (rd l1 0)).f7), .int .i64 0, .int .i64 0, .int .i64 0, .int .i64 0, .int .i64 0, .bool false]) ?_ 8 _ rfl; (with_reducible repeat (first | refine blk_drewN ?_ _ | refine blk_drew ?_ | refine blk_alloc ?_ _)); refine blk_put (cs := #[.string ((rd_T54 l0 (rd l1 0)).f0), .int .i64 ((rd_T54 l0 (rd l1 0)).f1), .int .i64 ((rd_T54 l0 (rd l1 0)).f2), .int .i64 ((rd_T54 l0 (rd l1 0)).f3), .int .i64 ((rd_T54 l0 (rd l1 0)).f4), .int .i64 ((rd_T54 l0 (rd l1 0)).f5), .int .i64 ((rd_T54 l0 (rd l1 0)).f6), .int .i64 0, .int .i64 0, .int .i64 0, .int .i64 0, .int .i64 0, .int .i64 0, .bool false]) ?_ 7 _ rfl; (with_reducible repeat (first | refine blk_drewN ?_ _ | refine blk_drew ?_ | refine blk_alloc ?_ _)); refine blk_put (cs := #[.string ((rd_T54 l0 (rd l1 0)).f0), .int .i64 ((rd_T54 l0 (rd l1 0)).f1), .int .i64 ((rd_T54 l0 (rd l1 0)).f2), .int .i64 ((rd_T54 l0 (rd l1 0)).f3), .int .i64 ((rd_T54 l0 (rd l1 0)).f4), .int .i64 ((rd_T54 l0 (rd l1 0)).f5), .int .i64 0, .int .i64 0, .int .i64 0, .int .i64 0, .int .i64 0, .int .i64 0, .int .i64 0, .bool false]) ?_ 6 _ rfl; (with_reducible repeat (first | refine blk_drewN ?_ _ | refine blk_drew ?_ | refine blk_alloc ?_ _)); refine blk_put (cs := #[.string ((rd_T54 l0 (rd l1 0)).f0), .int .i64 ((rd_T54 l0 (rd l1 0)).f1), .int .i64 ((rd_T54 l0 (rd l1 0)).f2), .int .i64 ((rd_T54 l0 (rd l1 0)).f3), .int .i64 ((rd_T54 l0 (rd l1 0)).f4), .int .i64 0, .int .i64 0, .int .i64 0, .int .i64 0, .int .i64 0, .int .i64 0, .int .i64 0, .int .i64 0, .bool false]) ?_ 5 _ rfl; (with_reducible repeat (first | refine blk_drewN ?_ _ | refine blk_drew ?_ | refine blk_alloc ?_ _)); refine blk_put (cs := #[.string ((rd_T54 l0 (rd l1 0)).f0), .int .i64 ((rd_T54 l0 (rd l1 0)).f1), .int .i64 ((rd_T54 l0 (rd l1 0)).f2), .int .i64 ((rd_T54 l0 (rd l1 0)).f3), .int .i64 0, .int .i64 0, .int .i64 0, .int .i64 0, .int .i64 0, .int .i64 0, .int .i64 0, .int .i64 0, .int .i64 0, .bool false]) ?_ 4 _ rfl; (with_reducible repeat (first | refine blk_drewN ?_ _ | refine blk_drew ?_ | refine blk_alloc ?_ _)); refine blk_put (cs := #[.string ((rd_T54 l0 (rd l1 0)).f0), .int .i64 ((rd_T54 l0 (rd l1 0)).f1), .int .i64 ((rd_T54 l0 (rd l1 0)).f2), .int .i64 0, .int .i64 0, .int .i64 0, .int .i64 0, .int .i64 0, .int .i64 0, .int .i64 0, .int .i64 0, .int .i64 0, .int .i64 0, .bool false]) ?_ 3 _ rfl; (with_reducible repeat (first | refine blk_drewN ?_ _ | refine blk_drew ?_ | refine blk_alloc ?_ _)); refine blk_put (cs := #[.string ((rd_T54 l0 (rd l1 0)).f0), .int .i64 ((rd_T54 l0 (rd l1 0)).f1), .int .i64 0, .int .i64 0, .int .i64 0, .int .i64 0, .int .i64 0, .int .i64 0, .int .i64 0, .int .i64 0, .int .i64 0, .int .i64 0, .int .i64 0, .bool false]) ?_ 2 _ rfl; (with_reducible repeat (first | refine blk_drewN ?_ _ | refine blk_drew ?_ | refine blk_alloc ?_ _)); refine blk_put (cs := #[.string ((rd_T54 l0 (rd l1 0)).f0), .int .i64 0, .int .i64 0, .int .i64 0, .int .i64 0, .int .i64 0, .int .i64 0, .int .i64 0, .int .i64 0, .int .i64 0, .int .i64 0, .int .i64 0, .int .i64 0, .bool false]) ?_ 1 _ rfl; (with_reducible repeat (first | refine blk_drewN ?_ _ | refine blk_drew ?_ | refine blk_alloc ?_ _)); refine blk_put (cs := #[.string (⟨#[]⟩ : ByteArray), .int .i64 0, .int .i64 0, .int .i64 0, .int .i64 0, .int .i64 0, .int .i64 0, .int .i64 0, .int .i64 0, .int .i64 0, .int .i64 0, .int .i64 0, .int .i64 0, .bool false]) ?_ 0 _ rfl; (with_reducible repeat (first | refine blk_drewN ?_ _ | refine blk_drew ?_ | refine blk_alloc ?_ _)); exact BK164.out⟩, ⟨dL1_ HB GE164⟩⟩
    case round =>
     clear H'
     try clear c1
     try clear c3
     try clear c3b0
     try clear c3b1
     try clear c4
     try clear c4b0
     try clear c5
     try clear c5b0
     try clear hcz7_0
     try clear hcz7_1
     try clear hcz7_10
     try clear hcz7_11
     try clear hcz7_12
     try clear hcz7_13
     try clear hcz7_2
     try clear hcz7_3
     try clear hcz7_4
     try clear hcz7_5
     try clear hcz7_6
     try clear hcz7_7
     try clear hcz7_8
     try clear hcz7_9
     try clear hfz7_0
     try clear hfz7_1
     try clear hfz7_10
     try clear hfz7_11
     try clear hfz7_12
     try clear hfz7_13
     try clear hfz7_2
     try clear hfz7_3
     try clear hfz7_4
     try clear hfz7_5
     try clear hfz7_6
     try clear hfz7_7
     try clear hfz7_8
     try clear hfz7_9
     try clear hx162_0
     try clear hx163_0
     try clear hx163_1
     try clear hx163_10
     try clear hx163_11
     try clear hx163_12
     try clear hx163_13
     try clear hx163_2
     try clear hx163_3
     try clear hx163_4
     try clear hx163_5
     try clear hx163_6
     try clear hx163_7
     try clear hx163_8
     try clear hx163_9
     try clear p162
     try clear p163
     try clear q162
     try clear q163
     obtain ⟨x16_1, rfl, HA, HK1, BK164, HB⟩ := hrel
     cases gk with
     | zero => exact absurd HA.out (by simp [fleet_fits.l0])
     | succ k1 =>
      have H := HA.out
      clear HA
      simp only [fleet_fits.l0] at H
      by_cases c8 : x16_1 < (l1.length : Int)
      ·rw [if_pos c8] at H
       have c8b0 : decide (x16_1 < (l1.length : Int)) = true := decide_eq_true c8
       clear c8
       by_cases c9 : 0 ≤ x16_1
       ·rw [if_pos c9] at H
        have c9b0 : decide (0 ≤ x16_1) = true := decide_eq_true c9
        clear c9
        by_cases c10 : x16_1 < (l1.length : Int)
        ·rw [if_pos c10] at H
         have c10b0 : decide (x16_1 < (l1.length : Int)) = true := decide_eq_true c10
         clear c10
         by_cases c11 : 0 ≤ (rd l1 x16_1)
         ·rw [if_pos c11] at H
          have c11b0 : decide (0 ≤ (rd l1 x16_1)) = true := decide_eq_true c11
          clear c11
          by_cases c12 : (rd l1 x16_1) < (l0.length : Int)
          ·rw [if_pos c12] at H
           have c12b0 : decide ((rd l1 x16_1) < (l0.length : Int)) = true := decide_eq_true c12
           clear c12
           by_cases c13 : ((rd_T54 l0 (rd l1 x16_1)).f1) = ((rd_T54 l0 (rd l1 0)).f1)
           ·rw [if_pos c13] at H
            have c13b0 : (((rd_T54 l0 (rd l1 x16_1)).f1) == ((rd_T54 l0 (rd l1 0)).f1)) = true := beq_iff_eq.mpr c13
            have c13b1 : (((rd_T54 l0 (rd l1 x16_1)).f1) != ((rd_T54 l0 (rd l1 0)).f1)) = false := bne_eq_false_iff_eq.mpr c13
            clear c13
            have H' := Aside0.mk H
            clear H
            have p165 : 0 ≤ (x16_1 : Int) := of_decide_eq_true tW_
            have q165 : x16_1 < (l1.length : Int) := of_decide_eq_true tW_
            obtain ⟨ad165, e165, hx165_0⟩ := Kd.at_int HR1.out x16_1 p165 q165
            obtain rfl : ad162 = ad165 := (by injection e165)
            replace hx165_0 := bc_ HB hx165_0
            replace p165 := eq_true p165
            replace q165 := eq_true q165
            have p166 : 0 ≤ ((rd l1 x16_1) : Int) := of_decide_eq_true tW_
            have q166 : (rd l1 x16_1) < (l0.length : Int) := of_decide_eq_true tW_
            obtain ⟨ad166, e166, hx166_0, hx166_1, hx166_2, hx166_3, hx166_4, hx166_5, hx166_6, hx166_7, hx166_8, hx166_9, hx166_10, hx166_11, hx166_12, hx166_13⟩ := at_T54 HR0.out (rd l1 x16_1) p166 q166
            obtain rfl : ad163 = ad166 := (by injection e166)
            replace hx166_0 := bc_ HB hx166_0
            replace hx166_1 := bc_ HB hx166_1
            replace hx166_2 := bc_ HB hx166_2
            replace hx166_3 := bc_ HB hx166_3
            replace hx166_4 := bc_ HB hx166_4
            replace hx166_5 := bc_ HB hx166_5
            replace hx166_6 := bc_ HB hx166_6
            replace hx166_7 := bc_ HB hx166_7
            replace hx166_8 := bc_ HB hx166_8
            replace hx166_9 := bc_ HB hx166_9
            replace hx166_10 := bc_ HB hx166_10
            replace hx166_11 := bc_ HB hx166_11
            replace hx166_12 := bc_ HB hx166_12
            replace hx166_13 := bc_ HB hx166_13
            replace p166 := eq_true p166
            replace q166 := eq_true q166
            obtain ⟨hcz14_0, hcz14_1, hcz14_2, hcz14_3, hcz14_4, hcz14_5, hcz14_6, hcz14_7, hcz14_8, hcz14_9, hcz14_10, hcz14_11, hcz14_12, hcz14_13, hfz14_0, hfz14_1, hfz14_2, hfz14_3, hfz14_4, hfz14_5, hfz14_6, hfz14_7, hfz14_8, hfz14_9, hfz14_10, hfz14_11, hfz14_12, hfz14_13⟩ := cs14_ BK164.out
            go_wp2
            repeat (go_quiet (fail); try go_wp2)
            go_roundg k1
            case measure => have := HK1.out; omega
            case rel => exact ⟨(wrap64 (x16_1 + 1)), tS_, H', ⟨by have := HK1.out; omega⟩, ⟨dB_ BK164⟩, ⟨dL1_ HB GE164⟩⟩
           ·rw [if_neg c13] at H
            have c13b0 : (((rd_T54 l0 (rd l1 x16_1)).f1) == ((rd_T54 l0 (rd l1 0)).f1)) = false := beq_eq_false_iff_ne.mpr c13
            have c13b1 : (((rd_T54 l0 (rd l1 x16_1)).f1) != ((rd_T54 l0 (rd l1 0)).f1)) = true := bne_iff_ne.mpr c13
            obtain rfl := Option.some.inj H
            have p165 : 0 ≤ (x16_1 : Int) := of_decide_eq_true tW_
            have q165 : x16_1 < (l1.length : Int) := of_decide_eq_true tW_
            obtain ⟨ad165, e165, hx165_0⟩ := Kd.at_int HR1.out x16_1 p165 q165
            obtain rfl : ad162 = ad165 := (by injection e165)
            replace hx165_0 := bc_ HB hx165_0
            replace p165 := eq_true p165
            replace q165 := eq_true q165
            have p166 : 0 ≤ ((rd l1 x16_1) : Int) := of_decide_eq_true tW_
            have q166 : (rd l1 x16_1) < (l0.length : Int) := of_decide_eq_true tW_
            obtain ⟨ad166, e166, hx166_0, hx166_1, hx166_2, hx166_3, hx166_4, hx166_5, hx166_6, hx166_7, hx166_8, hx166_9, hx166_10, hx166_11, hx166_12, hx166_13⟩ := at_T54 HR0.out (rd l1 x16_1) p166 q166
            obtain rfl : ad163 = ad166 := (by injection e166)
            replace hx166_0 := bc_ HB hx166_0
            replace hx166_1 := bc_ HB hx166_1
            replace hx166_2 := bc_ HB hx166_2
            replace hx166_3 := bc_ HB hx166_3
            replace hx166_4 := bc_ HB hx166_4
            replace hx166_5 := bc_ HB hx166_5
            replace hx166_6 := bc_ HB hx166_6
            replace hx166_7 := bc_ HB hx166_7
            replace hx166_8 := bc_ HB hx166_8
            replace hx166_9 := bc_ HB hx166_9
            replace hx166_10 := bc_ HB hx166_10
            replace hx166_11 := bc_ HB hx166_11
            replace hx166_12 := bc_ HB hx166_12
            replace hx166_13 := bc_ HB hx166_13
            replace p166 := eq_true p166
            replace q166 := eq_true q166
            obtain ⟨hcz15_0, hcz15_1, hcz15_2, hcz15_3, hcz15_4, hcz15_5, hcz15_6, hcz15_7, hcz15_8, hcz15_9, hcz15_10, hcz15_11, hcz15_12, hcz15_13, hfz15_0, hfz15_1, hfz15_2, hfz15_3, hfz15_4, hfz15_5, hfz15_6, hfz15_7, hfz15_8, hfz15_9, hfz15_10, hfz15_11, hfz15_12, hfz15_13⟩ := cs14_ BK164.out
            go_wp2
            repeat (go_quiet (fail); try go_wp2)
            go_ret
            exact ⟨tE_, dL1_ HB GE164⟩
          ·rw [if_neg c12] at H
           exact absurd H (by simp)
         ·rw [if_neg c11] at H
          exact absurd H (by simp)
        ·rw [if_neg c10] at H
         exact absurd H (by simp)
       ·rw [if_neg c9] at H
        exact absurd H (by simp)
      ·rw [if_neg c8] at H
       have c8b0 : decide (x16_1 < (l1.length : Int)) = false := decide_eq_false c8
       clear c8
       have HC16 := Aside0.mk H
       clear H
       go_upto_region 8 with (fail)
       repeat (go_quiet (fail); go_upto_region 8 with (fail))
       go_cut [46] (fun v46 wc => ∃ (kq : Nat) (x46_15 : Bool), v46 = .bool x46_15 ∧ Aside0 (fleet_fits.j1 kq x46_15 = some r) ∧ Aside0 (kq ≤ k1) ∧ Aside0 (wc.heap[gb164]? = some (.cells #[.string ((rd_T54 l0 (rd l1 0)).f0), .int .i64 ((rd_T54 l0 (rd l1 0)).f1), .int .i64 ((rd_T54 l0 (rd l1 0)).f2), .int .i64 ((rd_T54 l0 (rd l1 0)).f3), .int .i64 ((rd_T54 l0 (rd l1 0)).f4), .int .i64 ((rd_T54 l0 (rd l1 0)).f5), .int .i64 ((rd_T54 l0 (rd l1 0)).f6), .int .i64 ((rd_T54 l0 (rd l1 0)).f7), .int .i64 ((rd_T54 l0 (rd l1 0)).f8), .int .i64 ((rd_T54 l0 (rd l1 0)).f9), .int .i64 ((rd_T54 l0 (rd l1 0)).f10), .int .i64 ((rd_T54 l0 (rd l1 0)).f11), .int .i64 ((rd_T54 l0 (rd l1 0)).f12), .bool ((rd_T54 l0 (rd l1 0)).f13)] 54 (0, 0))) ∧ Aside0 (Below w.heap.size w wc))
       case first =>
        have H := HC16.out
        clear HC16
        by_cases c17 : ((rd_T54 l0 (rd l1 0)).f1) = 0
        ·rw [if_pos c17] at H
         have c17b0 : (((rd_T54 l0 (rd l1 0)).f1) == 0) = true := beq_iff_eq.mpr c17
         have c17b1 : (((rd_T54 l0 (rd l1 0)).f1) != 0) = false := bne_eq_false_iff_eq.mpr c17
         clear c17
         (first | rw [c17b0] | (simp only [i64_w, i32_w]; rw [c17b0]) | skip)
         by_cases c18 : ((rd_T54 l0 (rd l1 0)).f3) = 0
         ·rw [if_pos c18] at H
          have c18b0 : (((rd_T54 l0 (rd l1 0)).f3) == 0) = true := beq_iff_eq.mpr c18
          have c18b1 : (((rd_T54 l0 (rd l1 0)).f3) != 0) = false := bne_eq_false_iff_eq.mpr c18
          clear c18
          have H' := Aside0.mk H
          clear H
          obtain ⟨hcz19_0, hcz19_1, hcz19_2, hcz19_3, hcz19_4, hcz19_5, hcz19_6, hcz19_7, hcz19_8, hcz19_9, hcz19_10, hcz19_11, hcz19_12, hcz19_13, hfz19_0, hfz19_1, hfz19_2, hfz19_3, hfz19_4, hfz19_5, hfz19_6, hfz19_7, hfz19_8, hfz19_9, hfz19_10, hfz19_11, hfz19_12, hfz19_13⟩ := cs14_ BK164.out
          go_wp2
          repeat (go_quiet (fail); try go_wp2)
          go_meet
          case rel => exact ⟨_, (true), tS_, H', ⟨by have := HK1.out; first | omega | exact Nat.le_refl _⟩, ⟨dB_ BK164⟩, ⟨dL1_ HB GE164⟩⟩
         ·rw [if_neg c18] at H
          have c18b0 : (((rd_T54 l0 (rd l1 0)).f3) == 0) = false := beq_eq_false_iff_ne.mpr c18
          have c18b1 : (((rd_T54 l0 (rd l1 0)).f3) != 0) = true := bne_iff_ne.mpr c18
          have H' := Aside0.mk H
          clear H
          obtain ⟨hcz20_0, hcz20_1, hcz20_2, hcz20_3, hcz20_4, hcz20_5, hcz20_6, hcz20_7, hcz20_8, hcz20_9, hcz20_10, hcz20_11, hcz20_12, hcz20_13, hfz20_0, hfz20_1, hfz20_2, hfz20_3, hfz20_4, hfz20_5, hfz20_6, hfz20_7, hfz20_8, hfz20_9, hfz20_10, hfz20_11, hfz20_12, hfz20_13⟩ := cs14_ BK164.out
          go_wp2
          repeat (go_quiet (fail); try go_wp2)
          go_meet
          case rel => exact ⟨_, (false), tS_, H', ⟨by have := HK1.out; first | omega | exact Nat.le_refl _⟩, ⟨dB_ BK164⟩, ⟨dL1_ HB GE164⟩⟩
        ·rw [if_neg c17] at H
         have c17b0 : (((rd_T54 l0 (rd l1 0)).f1) == 0) = false := beq_eq_false_iff_ne.mpr c17
         have c17b1 : (((rd_T54 l0 (rd l1 0)).f1) != 0) = true := bne_iff_ne.mpr c17
         (first | rw [c17b0] | (simp only [i64_w, i32_w]; rw [c17b0]) | skip)
         have H' := Aside0.mk H
         clear H
         obtain ⟨hcz21_0, hcz21_1, hcz21_2, hcz21_3, hcz21_4, hcz21_5, hcz21_6, hcz21_7, hcz21_8, hcz21_9, hcz21_10, hcz21_11, hcz21_12, hcz21_13, hfz21_0, hfz21_1, hfz21_2, hfz21_3, hfz21_4, hfz21_5, hfz21_6, hfz21_7, hfz21_8, hfz21_9, hfz21_10, hfz21_11, hfz21_12, hfz21_13⟩ := cs14_ BK164.out
         go_wp2
         repeat (go_quiet (fail); try go_wp2)
         go_meet
         case rel => exact ⟨_, (decide ((l1.length : Int) > 1)), tS_, H', ⟨by have := HK1.out; first | omega | exact Nat.le_refl _⟩, ⟨dB_ BK164⟩, ⟨dL1_ HB GE164⟩⟩
       case rest =>
        clear HC16
        try clear c1
        try clear c3
        try clear c3b0
        try clear c3b1
        try clear c4
        try clear c4b0
        try clear c5
        try clear c5b0
        try clear c8
        try clear c8b0
        try clear c9
        try clear c10
        try clear c11
        try clear c12
        try clear c13
        try clear c17
        try clear c18
        try clear hcz7_0
        try clear hcz7_1
        try clear hcz7_10
        try clear hcz7_11
        try clear hcz7_12
        try clear hcz7_13
        try clear hcz7_2
        try clear hcz7_3
        try clear hcz7_4
        try clear hcz7_5
        try clear hcz7_6
        try clear hcz7_7
        try clear hcz7_8
        try clear hcz7_9
        try clear hfz7_0
        try clear hfz7_1
        try clear hfz7_10
        try clear hfz7_11
        try clear hfz7_12
        try clear hfz7_13
        try clear hfz7_2
        try clear hfz7_3
        try clear hfz7_4
        try clear hfz7_5
        try clear hfz7_6
        try clear hfz7_7
        try clear hfz7_8
        try clear hfz7_9
        try clear hx162_0
        try clear hx163_0
        try clear hx163_1
        try clear hx163_10
        try clear hx163_11
        try clear hx163_12
        try clear hx163_13
        try clear hx163_2
        try clear hx163_3
        try clear hx163_4
        try clear hx163_5
        try clear hx163_6
        try clear hx163_7
        try clear hx163_8
        try clear hx163_9
        try clear p162
        try clear p163
        try clear q162
        try clear q163
        obtain ⟨kq, x46_15, rfl, HA, HJ15, BK164, HB⟩ := hcut
        cases kq with
        | zero => exact absurd HA.out (by simp [fleet_fits.j1])
        | succ kj15 =>
         have H := HA.out
         clear HA
         simp only [fleet_fits.j1] at H
         by_cases c22 : x46_15 = true
         ·subst c22
          have H1 : (some 8) = some r := by rw [if_pos rfl] at H; exact H
          clear H
          have H := H1
          clear H1
          obtain rfl := Option.some.inj H
          go_wp2
          repeat (go_quiet (fail); try go_wp2)
          go_ret
          exact ⟨tE_, dL1_ HB GE164⟩
         ·replace c22 := Bool.eq_false_iff.mpr c22
          subst c22
          have H1 : (some 0) = some r := by rw [if_neg (show ¬ (false = true) by decide)] at H; exact H
          clear H
          have H := H1
          clear H1
          obtain rfl := Option.some.inj H
          go_wp2
          repeat (go_quiet (fail); try go_wp2)
          go_ret
          exact ⟨tE_, dL1_ HB GE164⟩
   ·rw [if_neg c5] at H
    exact absurd H (by simp)
  ·rw [if_neg c4] at H
   exact absurd H (by simp)
 ·rw [if_neg c3] at H
  exact absurd H (by simp)

end Go.Proofs.Ytgnahbjpockdmaa.Q
namespace Go.Proofs.Ytgnahbjpockdmaa.Q
open Go.RowKit Go.Proofs.YtgnahbjpockdmaaPrs Go.Proofs.YtgnahbjpockdmaaOwn Go.Proofs.YtgnahbjpockdmaaW.PrintWords Go.Proofs.YtgnahbjpockdmaaW.PrintLast Go.Proofs.YtgnahbjpockdmaaW.PrintMore
attribute [local go_sem] max2_int min2_int max_two min_two max_three min_three max_four min_four   -- for this text's walks alone
set_option linter.unusedVariables false
set_option linter.unusedSimpArgs false

/-! ### fleet_joined: function 39 -/
mutual
def fleet_joined.j0 : Nat → List (S54) → List Int → Bool → Option (Int)
  | 0, _, _, _ => none
  | k + 1, x0, x1, x20 => if x20 = true then (some 1) else (fleet_joined.l0 k x0 x1 x1 (x1.length : Int) 0)
def fleet_joined.l0 : Nat → List (S54) → List Int → List Int → Int → Int → Option (Int)
  | 0, _, _, _, _, _ => none
  | k + 1, x0, x1, x21, x22, x23 => if x23 < x22 then (if 0 ≤ x23 then (if x23 < (x21.length : Int) then (if (rd x21 x23) < 0 then (fleet_joined.j2 k x0 x1 x21 x22 x23 true) else (fleet_joined.j2 k x0 x1 x21 x22 x23 (decide ((rd x21 x23) ≥ (x0.length : Int))))) else (none)) else (none)) else ((fleet_fits.f k x0 x1).bind fun t168 => (some t168))
def fleet_joined.j2 : Nat → List (S54) → List Int → List Int → Int → Int → Bool → Option (Int)
  | 0, _, _, _, _, _, _ => none
  | k + 1, x0, x1, x21, x22, x23, x34 => if x34 = true then (some 2) else (fleet_joined.l0 k x0 x1 x21 x22 (wrap64 (x23 + 1)))
end
def fleet_joined.f (k : Nat) (l0 : List (S54)) (l1 : List Int) : Option (Int) := (fleet_ValidateModels.f k l0).bind fun t167 => (if t167 = 0 then (if (l1.length : Int) = 0 then (fleet_joined.j0 k l0 l1 true) else (fleet_joined.j0 k l0 l1 (decide ((l1.length : Int) > 10)))) else (some t167))
theorem fleet_joined.mono_l : ∀ k, (∀ y0 y1 y2, LeO (fleet_joined.j0 k y0 y1 y2) (fleet_joined.j0 (k + 1) y0 y1 y2)) ∧ (∀ y0 y1 y2 y3 y4, LeO (fleet_joined.l0 k y0 y1 y2 y3 y4) (fleet_joined.l0 (k + 1) y0 y1 y2 y3 y4)) ∧ (∀ y0 y1 y2 y3 y4 y5, LeO (fleet_joined.j2 k y0 y1 y2 y3 y4 y5) (fleet_joined.j2 (k + 1) y0 y1 y2 y3 y4 y5))
  | 0 => ⟨fun _ _ _ r h => by simp [fleet_joined.j0] at h, fun _ _ _ _ _ r h => by simp [fleet_joined.l0] at h, fun _ _ _ _ _ _ r h => by simp [fleet_joined.j2] at h⟩
  | k + 1 => by
    obtain ⟨ih0, ih1, ih2⟩ := fleet_joined.mono_l k
    refine ⟨?_, ?_, ?_⟩
    · intro y0 y1 y2
      unfold fleet_joined.j0
      repeat' first
      | (with_reducible first | exact ih0 _ _ _ | exact ih1 _ _ _ _ _ | exact ih2 _ _ _ _ _ _ | exact fleet_ValidateModels.mono _ _ | exact fleet_fits.mono _ _ _ | exact LeO.refl _ | exact LeO.none _ | refine LeO.ite ?_ ?_ | refine LeO.bind ?_ (fun _ => ?_))
      | exact ih0 _ _ _
      | exact ih1 _ _ _ _ _
      | exact ih2 _ _ _ _ _ _
      | exact fleet_ValidateModels.mono _ _
      | exact fleet_fits.mono _ _ _
      | exact LeO.none _
      | refine LeO.ite ?_ ?_
      | refine LeO.bind ?_ (fun _ => ?_)
    · intro y0 y1 y2 y3 y4
      unfold fleet_joined.l0
      repeat' first
      | (with_reducible first | exact ih0 _ _ _ | exact ih1 _ _ _ _ _ | exact ih2 _ _ _ _ _ _ | exact fleet_ValidateModels.mono _ _ | exact fleet_fits.mono _ _ _ | exact LeO.refl _ | exact LeO.none _ | refine LeO.ite ?_ ?_ | refine LeO.bind ?_ (fun _ => ?_))
      | exact ih0 _ _ _
      | exact ih1 _ _ _ _ _
      | exact ih2 _ _ _ _ _ _
      | exact fleet_ValidateModels.mono _ _
      | exact fleet_fits.mono _ _ _
      | exact LeO.none _
      | refine LeO.ite ?_ ?_
      | refine LeO.bind ?_ (fun _ => ?_)
    · intro y0 y1 y2 y3 y4 y5
      unfold fleet_joined.j2
      repeat' first
      | (with_reducible first | exact ih0 _ _ _ | exact ih1 _ _ _ _ _ | exact ih2 _ _ _ _ _ _ | exact fleet_ValidateModels.mono _ _ | exact fleet_fits.mono _ _ _ | exact LeO.refl _ | exact LeO.none _ | refine LeO.ite ?_ ?_ | refine LeO.bind ?_ (fun _ => ?_))
      | exact ih0 _ _ _
      | exact ih1 _ _ _ _ _
      | exact ih2 _ _ _ _ _ _
      | exact fleet_ValidateModels.mono _ _
      | exact fleet_fits.mono _ _ _
      | exact LeO.none _
      | refine LeO.ite ?_ ?_
      | refine LeO.bind ?_ (fun _ => ?_)
theorem fleet_joined.mono : ∀ a0 a1 k, LeO (fleet_joined.f k a0 a1) (fleet_joined.f (k + 1) a0 a1) := by
  intro a0 a1 k
  obtain ⟨ih0, ih1, ih2⟩ := fleet_joined.mono_l k
  unfold fleet_joined.f
  repeat' first
      | (with_reducible first | exact ih0 _ _ _ | exact ih1 _ _ _ _ _ | exact ih2 _ _ _ _ _ _ | exact fleet_ValidateModels.mono _ _ | exact fleet_fits.mono _ _ _ | exact LeO.refl _ | exact LeO.none _ | refine LeO.ite ?_ ?_ | refine LeO.bind ?_ (fun _ => ?_))
      | exact ih0 _ _ _
      | exact ih1 _ _ _ _ _
      | exact ih2 _ _ _ _ _ _
      | exact fleet_ValidateModels.mono _ _
      | exact fleet_fits.mono _ _ _
      | exact LeO.none _
      | refine LeO.ite ?_ ?_
      | refine LeO.bind ?_ (fun _ => ?_)
set_option maxHeartbeats 8000000 in
set_option maxRecDepth 100000 in
theorem fleet_joined.calls (k : Nat) (A0 : Option Addr) (c0 : Nat) (l0 : List (S54)) (A1 : Option Addr) (c1 : Nat) (l1 : List Int) (r : Int) (w : World) (hr0 : Kd.C k54 w A0 l0.length l0) (hc0 : l0.length ≤ c0) (hr1 : Kd.C (Kd.int .i64) w A1 l1.length l1) (hc1 : l1.length ≤ c1) (h : fleet_joined.f k l0 l1 = some r) :
    Calls Try.prog 39 #[.slice A0 l0.length c0, .slice A1 l1.length c1] w fun e w' => e = .returned (.int .i64 r) ∧ Below w.heap.size w w' := by
 have HR0 := Aside0.mk hr0
 have HC0 := Aside0.mk hc0
 clear hr0 hc0
 have HR1 := Aside0.mk hr1
 have HC1 := Aside0.mk hc1
 clear hr1 hc1
 have HB := Aside0.mk (Below.refl w.heap.size w)
 have H : ((fleet_ValidateModels.f k l0).bind fun t167 => (if t167 = 0 then (if (l1.length : Int) = 0 then (fleet_joined.j0 k l0 l1 true) else (fleet_joined.j0 k l0 l1 (decide ((l1.length : Int) > 10)))) else (some t167))) = some r := h
 clear h
 replace H := Option.bind_eq_some_iff.mp H
 obtain ⟨t167, A30, H⟩ := H
 replace H : (if t167 = 0 then (if (l1.length : Int) = 0 then (fleet_joined.j0 k l0 l1 true) else (fleet_joined.j0 k l0 l1 (decide ((l1.length : Int) > 10)))) else (some t167)) = some r := H
 have A3 := Aside0.mk A30
 clear A30
 by_cases c4 : t167 = 0
 ·rw [if_pos c4] at H
  have c4b0 : (t167 == 0) = true := beq_iff_eq.mpr c4
  have c4b1 : (t167 != 0) = false := bne_eq_false_iff_eq.mpr c4
  clear c4
  have HC5 := Aside0.mk H
  clear H
  go_enter Try.func39, Try.ntmps39
  go_upto_region 4 with (first | ((with_reducible refine gate_callee (f := 17) rfl ?_); refine goesL_ (some 9) rfl rfl Try.func17 (by kernel_rfl) rfl #[.slice A0 l0.length c0] rfl tA_ ?_; (with_reducible refine (fleet_ValidateModels.calls k _ _ l0 t167 _ ?side1 ?side2 A3.out).mono ?_); (case side1 => repeat (first | exact HR0.out | (with_reducible refine Kd.C_alloc ?_ _) | (with_reducible refine Kd.C_drewN ?_ _) | (with_reducible refine Kd.C_drew ?_))); (case side2 => exact HC0.out); rintro e w6 ⟨rfl, hb⟩; refine ⟨_, rfl, ?_⟩; replace HB := Aside0.mk (below_step (dL_ HB) hb)))
  (try simp only [Act.put, List.setIfInBounds_toArray, List.set_cons_zero, List.set_cons_succ])
  go_cut [20] (fun v20 wc => ∃ (kq : Nat) (x20_4 : Bool), v20 = .bool x20_4 ∧ Aside0 (fleet_joined.j0 kq l0 l1 x20_4 = some r) ∧ Aside0 (kq ≤ k) ∧ Aside0 (Below w.heap.size w wc))
  case first =>
   have H := HC5.out
   clear HC5
   by_cases c7 : (l1.length : Int) = 0
   ·rw [if_pos c7] at H
    have c7b0 : ((l1.length : Int) == 0) = true := beq_iff_eq.mpr c7
    have c7b1 : ((l1.length : Int) != 0) = false := bne_eq_false_iff_eq.mpr c7
    clear c7
    (first | rw [c7b0] | (simp only [i64_w, i32_w]; rw [c7b0]) | skip)
    have H' := Aside0.mk H
    clear H
    go_wp2
    go_meet
    case rel => exact ⟨_, (true), tS_, H', ⟨by first | omega | exact Nat.le_refl _⟩, ⟨dL_ HB⟩⟩
   ·rw [if_neg c7] at H
    have c7b0 : ((l1.length : Int) == 0) = false := beq_eq_false_iff_ne.mpr c7
    have c7b1 : ((l1.length : Int) != 0) = true := bne_iff_ne.mpr c7
    have c7b2 : ¬ (l1 = []) := fun h_ => c7 (by rw [h_]; rfl)
    (first | rw [c7b0] | (simp only [i64_w, i32_w]; rw [c7b0]) | skip)
    have H' := Aside0.mk H
    clear H
    go_wp2
    go_meet
    case rel => exact ⟨_, (decide ((l1.length : Int) > 10)), tS_, H', ⟨by first | omega | exact Nat.le_refl _⟩, ⟨dL_ HB⟩⟩
  case rest =>
   clear HC5
   try clear c1
   try clear c4
   try clear c4b0
   try clear c4b1
   try clear c7
   obtain ⟨kq, x20_4, rfl, HA, HJ4, HB⟩ := hcut
   cases kq with
   | zero => exact absurd HA.out (by simp [fleet_joined.j0])
   | succ kj4 =>
    have H := HA.out
    clear HA
    simp only [fleet_joined.j0] at H
    by_cases c8 : x20_4 = true
    ·subst c8
     have H1 : (some 1) = some r := by rw [if_pos rfl] at H; exact H
     clear H
     have H := H1
     clear H1
     obtain rfl := Option.some.inj H
     go_wp2
     go_ret
     exact ⟨tE_, dL_ HB⟩
    ·replace c8 := Bool.eq_false_iff.mpr c8
     subst c8
     have H1 : (fleet_joined.l0 kj4 l0 l1 l1 (l1.length : Int) 0) = some r := by rw [if_neg (show ¬ (false = true) by decide)] at H; exact H
     clear H
     have H := H1
     clear H1
     have H' := Aside0.mk H
     clear H
     go_wp2
     go_loopg [23] kj4 (fun kq v23 w' => ∃ (x23_2 : Int), v23 = .int .i64 x23_2 ∧ Aside0 (fleet_joined.l0 kq l0 l1 l1 (l1.length : Int) x23_2 = some r) ∧ Aside0 (kq ≤ kj4) ∧ Aside0 (Below w.heap.size w w'))
     case atStart => exact ⟨(0), tS_, H', ⟨Nat.le_refl _⟩, ⟨dL_ HB⟩⟩
     case round =>
      clear H'
      try clear c1
      try clear c4
      try clear c4b0
      try clear c4b1
      try clear c7
      try clear c8
      obtain ⟨x23_2, rfl, HA, HK2, HB⟩ := hrel
      cases gk with
      | zero => exact absurd HA.out (by simp [fleet_joined.l0])
      | succ k2 =>
       have H := HA.out
       clear HA
       simp only [fleet_joined.l0] at H
       by_cases c9 : x23_2 < (l1.length : Int)
       ·rw [if_pos c9] at H
        have c9b0 : decide (x23_2 < (l1.length : Int)) = true := decide_eq_true c9
        clear c9
        by_cases c10 : 0 ≤ x23_2
        ·rw [if_pos c10] at H
         have c10b0 : decide (0 ≤ x23_2) = true := decide_eq_true c10
         clear c10
         by_cases c11 : x23_2 < (l1.length : Int)
         ·rw [if_pos c11] at H
          have c11b0 : decide (x23_2 < (l1.length : Int)) = true := decide_eq_true c11
          clear c11
          have HC12 := Aside0.mk H
          clear H
          have p169 : 0 ≤ (x23_2 : Int) := of_decide_eq_true tW_
          have q169 : x23_2 < (l1.length : Int) := of_decide_eq_true tW_
          obtain ⟨ad169, e169, hx169_0⟩ := Kd.at_int HR1.out x23_2 p169 q169
          cases e169
          replace hx169_0 := bc_ HB hx169_0
          replace p169 := eq_true p169
          replace q169 := eq_true q169
          go_upto_region 9 with (fail)
          go_cut [34] (fun v34 wc => ∃ (kq : Nat) (x34_11 : Bool), v34 = .bool x34_11 ∧ Aside0 (fleet_joined.j2 kq l0 l1 l1 (l1.length : Int) x23_2 x34_11 = some r) ∧ Aside0 (kq ≤ k2) ∧ Aside0 (Below w.heap.size w wc))
          case first =>
           have H := HC12.out
           clear HC12
           by_cases c13 : (rd l1 x23_2) < 0
           ·rw [if_pos c13] at H
            have c13b0 : decide ((rd l1 x23_2) < 0) = true := decide_eq_true c13
            clear c13
            (first | rw [c13b0] | (simp only [i64_w, i32_w]; rw [c13b0]) | skip)
            have H' := Aside0.mk H
            clear H
            go_wp2
            go_meet
            case rel => exact ⟨_, (true), tS_, H', ⟨by have := HJ4.out; have := HK2.out; first | omega | exact Nat.le_refl _⟩, ⟨dL_ HB⟩⟩
           ·rw [if_neg c13] at H
            have c13b0 : decide ((rd l1 x23_2) < 0) = false := decide_eq_false c13
            clear c13
            (first | rw [c13b0] | (simp only [i64_w, i32_w]; rw [c13b0]) | skip)
            have H' := Aside0.mk H
            clear H
            go_wp2
            go_meet
            case rel => exact ⟨_, (decide ((rd l1 x23_2) ≥ (l0.length : Int))), tS_, H', ⟨by have := HJ4.out; have := HK2.out; first | omega | exact Nat.le_refl _⟩, ⟨dL_ HB⟩⟩
          case rest =>
           clear HC12
           try clear c1
           try clear c4
           try clear c4b0
           try clear c4b1
           try clear c7
           try clear c8
           try clear c9
           try clear c9b0
           try clear c10
           try clear c10b0
           try clear c11
           try clear c11b0
           try clear c13
           try clear hx169_0
           try clear p169
           try clear q169
           obtain ⟨kq, x34_11, rfl, HA, HJ11, HB⟩ := hcut
           cases kq with
           | zero => exact absurd HA.out (by simp [fleet_joined.j2])
           | succ kj11 =>
            have H := HA.out
            clear HA
            simp only [fleet_joined.j2] at H
            by_cases c14 : x34_11 = true
            ·subst c14
             have H1 : (some 2) = some r := by rw [if_pos rfl] at H; exact H
             clear H
             have H := H1
             clear H1
             obtain rfl := Option.some.inj H
             go_wp2
             go_ret
             exact ⟨tE_, dL_ HB⟩
            ·replace c14 := Bool.eq_false_iff.mpr c14
             subst c14
             have H1 : (fleet_joined.l0 kj11 l0 l1 l1 (l1.length : Int) (wrap64 (x23_2 + 1))) = some r := by rw [if_neg (show ¬ (false = true) by decide)] at H; exact H
             clear H
             have H := H1
             clear H1
             have H' := Aside0.mk H
             clear H
             go_wp2
             go_roundg kj11
             case measure => have := HJ4.out; have := HK2.out; have := HJ11.out; omega
             case rel => exact ⟨(wrap64 (x23_2 + 1)), tS_, H', ⟨by have := HJ4.out; have := HK2.out; have := HJ11.out; omega⟩, ⟨dL_ HB⟩⟩
         ·rw [if_neg c11] at H
          exact absurd H (by simp)
        ·rw [if_neg c10] at H
         exact absurd H (by simp)
       ·rw [if_neg c9] at H
        have c9b0 : decide (x23_2 < (l1.length : Int)) = false := decide_eq_false c9
        clear c9
        replace H := Option.bind_eq_some_iff.mp H
        obtain ⟨t168, A150, H⟩ := H
        replace H : (some t168) = some r := H
        have A15 := Aside0.mk A150
        clear A150
        obtain rfl := Option.some.inj H
        go_wp2_with (first | ((with_reducible refine gate_callee (f := 59) rfl ?_); refine goesL_ (some 38) rfl rfl Try.func59 (by kernel_rfl) rfl #[.slice A0 l0.length c0, .slice A1 l1.length c1] rfl tA_ ?_; (with_reducible refine (fleet_fits.calls k2 _ _ l0 _ _ l1 t168 _ ?side1 ?side2 ?side3 ?side4 A15.out).mono ?_); (case side1 => exact dC_ HR0 HB); (case side2 => exact HC0.out); (case side3 => exact dC_ HR1 HB); (case side4 => exact HC1.out); rintro e w16 ⟨rfl, hb⟩; refine ⟨_, rfl, ?_⟩; replace HB := Aside0.mk (below_step (dL_ HB) hb)))
        go_ret
        exact ⟨tE_, dL_ HB⟩
 ·rw [if_neg c4] at H
  have c4b0 : (t167 == 0) = false := beq_eq_false_iff_ne.mpr c4
  have c4b1 : (t167 != 0) = true := bne_iff_ne.mpr c4
  obtain rfl := Option.some.inj H
  go_enter Try.func39, Try.ntmps39
  go_wp2_with (first | ((with_reducible refine gate_callee (f := 17) rfl ?_); refine goesL_ (some 9) rfl rfl Try.func17 (by kernel_rfl) rfl #[.slice A0 l0.length c0] rfl tA_ ?_; (with_reducible refine (fleet_ValidateModels.calls k _ _ l0 t167 _ ?side1 ?side2 A3.out).mono ?_); (case side1 => repeat (first | exact HR0.out | (with_reducible refine Kd.C_alloc ?_ _) | (with_reducible refine Kd.C_drewN ?_ _) | (with_reducible refine Kd.C_drew ?_))); (case side2 => exact HC0.out); rintro e w17 ⟨rfl, hb⟩; refine ⟨_, rfl, ?_⟩; replace HB := Aside0.mk (below_step (dL_ HB) hb)))
  go_ret
  exact ⟨tE_, dL_ HB⟩

end Go.Proofs.Ytgnahbjpockdmaa.Q
