-- PRINTED by print.py out of the translation. Not trusted: Lean checks it.
import Derived.Test.YtgnahbjpockdmabPrs
import Derived.Test.YtgnahbjpockdmabQ0
import Derived.Test.YtgnahbjpockdmabQ7
namespace Go.Proofs.Ytgnahbjpockdmab.Q
open Go.RowKit Go.Proofs.YtgnahbjpockdmabPrs Go.Proofs.YtgnahbjpockdmabOwn Go.Proofs.YtgnahbjpockdmabW.PrintWords Go.Proofs.YtgnahbjpockdmabW.PrintLast Go.Proofs.YtgnahbjpockdmabW.PrintMore
attribute [local go_sem] max2_int min2_int max_two min_two max_three min_three max_four min_four   -- for this text's walks alone
set_option linter.unusedVariables false
set_option linter.unusedSimpArgs false

/-! ### fleet_ValidateModels: function 37 -/
mutual
def fleet_ValidateModels.l0 : Nat → List (S52) → List (S52) → Int → Int → Option (Int)
  | 0, _, _, _, _ => none
  | k + 1, x0, x12, x13, x14 => if x14 < x13 then (if 0 ≤ x14 then (if x14 < (x12.length : Int) then ((fleet_sound.f k ((rd_T52 x12 x14).f0) ((rd_T52 x12 x14).f1) ((rd_T52 x12 x14).f2) ((rd_T52 x12 x14).f3) ((rd_T52 x12 x14).f4) ((rd_T52 x12 x14).f5) ((rd_T52 x12 x14).f6) ((rd_T52 x12 x14).f7) ((rd_T52 x12 x14).f8) ((rd_T52 x12 x14).f9) ((rd_T52 x12 x14).f10) ((rd_T52 x12 x14).f11) ((rd_T52 x12 x14).f12) ((rd_T52 x12 x14).f13)).bind fun t158 => (if t158 = true then (fleet_ValidateModels.l0 k x0 x12 x13 (wrap64 (x14 + 1))) else (some 1))) else (none)) else (none)) else (fleet_ValidateModels.l1 k x0 x0 (x0.length : Int) 0)
def fleet_ValidateModels.l1 : Nat → List (S52) → List (S52) → Int → Int → Option (Int)
  | 0, _, _, _, _ => none
  | k + 1, x0, x22, x23, x24 => if x24 < x23 then (if 0 ≤ x24 then (if x24 < (x22.length : Int) then (if x24 ≤ (x0.length : Int) then ((some (x0.take (x24 : Int).toNat : List (S52))).bind fun y161 => (fleet_ValidateModels.l2 k x0 x22 x23 x24 y161 (y161.length : Int) 0 ((rd_T52 x22 x24).f0) ((rd_T52 x22 x24).f1) ((rd_T52 x22 x24).f2) ((rd_T52 x22 x24).f3) ((rd_T52 x22 x24).f4) ((rd_T52 x22 x24).f5) ((rd_T52 x22 x24).f6) ((rd_T52 x22 x24).f7) ((rd_T52 x22 x24).f8) ((rd_T52 x22 x24).f9) ((rd_T52 x22 x24).f10) ((rd_T52 x22 x24).f11) ((rd_T52 x22 x24).f12) ((rd_T52 x22 x24).f13))) else (none)) else (none)) else (none)) else (some 0)
def fleet_ValidateModels.l2 : Nat → List (S52) → List (S52) → Int → Int → List (S52) → Int → Int → ByteArray → Int → Int → Int → Int → Int → Int → Int → Int → Int → Int → Int → Int → Bool → Option (Int)
  | 0, _, _, _, _, _, _, _, _, _, _, _, _, _, _, _, _, _, _, _, _, _ => none
  | k + 1, x0, x22, x23, x24, x31, x32, x33, x161000, x161001, x161002, x161003, x161004, x161005, x161006, x161007, x161008, x161009, x161010, x161011, x161012, x161013 => if x33 < x32 then (if 0 ≤ x33 then (if x33 < (x31.length : Int) then (if ((rd_T52 x31 x33).f0).toList = x161000.toList then (some 3) else (fleet_ValidateModels.l2 k x0 x22 x23 x24 x31 x32 (wrap64 (x33 + 1)) x161000 x161001 x161002 x161003 x161004 x161005 x161006 x161007 x161008 x161009 x161010 x161011 x161012 x161013)) else (none)) else (none)) else (fleet_ValidateModels.l1 k x0 x22 x23 (wrap64 (x24 + 1)))
end
def fleet_ValidateModels.f (k : Nat) (l0 : List (S52)) : Option (Int) := if (l0.length : Int) > 40 then (some 4) else (fleet_ValidateModels.l0 k l0 l0 (l0.length : Int) 0)
theorem fleet_ValidateModels.mono_l : ∀ k, (∀ y0 y1 y2 y3, LeO (fleet_ValidateModels.l0 k y0 y1 y2 y3) (fleet_ValidateModels.l0 (k + 1) y0 y1 y2 y3)) ∧ (∀ y0 y1 y2 y3, LeO (fleet_ValidateModels.l1 k y0 y1 y2 y3) (fleet_ValidateModels.l1 (k + 1) y0 y1 y2 y3)) ∧ (∀ y0 y1 y2 y3 y4 y5 y6 y7 y8 y9 y10 y11 y12 y13 y14 y15 y16 y17 y18 y19 y20, LeO (fleet_ValidateModels.l2 k y0 y1 y2 y3 y4 y5 y6 y7 y8 y9 y10 y11 y12 y13 y14 y15 y16 y17 y18 y19 y20) (fleet_ValidateModels.l2 (k + 1) y0 y1 y2 y3 y4 y5 y6 y7 y8 y9 y10 y11 y12 y13 y14 y15 y16 y17 y18 y19 y20))
  | 0 => ⟨fun _ _ _ _ r h => by simp [fleet_ValidateModels.l0] at h, fun _ _ _ _ r h => by simp [fleet_ValidateModels.l1] at h, fun _ _ _ _ _ _ _ _ _ _ _ _ _ _ _ _ _ _ _ _ _ r h => by simp [fleet_ValidateModels.l2] at h⟩
  | k + 1 => by
    obtain ⟨ih0, ih1, ih2⟩ := fleet_ValidateModels.mono_l k
    refine ⟨?_, ?_, ?_⟩
    · intro y0 y1 y2 y3
      unfold fleet_ValidateModels.l0
      repeat' first
      | (with_reducible first | exact ih0 _ _ _ _ | exact ih1 _ _ _ _ | exact ih2 _ _ _ _ _ _ _ _ _ _ _ _ _ _ _ _ _ _ _ _ _ | exact fleet_sound.mono _ _ _ _ _ _ _ _ _ _ _ _ _ _ _ | exact LeO.refl _ | exact LeO.none _ | refine LeO.ite ?_ ?_ | refine LeO.bind ?_ (fun _ => ?_))
      | exact ih0 _ _ _ _
      | exact ih1 _ _ _ _
      | exact ih2 _ _ _ _ _ _ _ _ _ _ _ _ _ _ _ _ _ _ _ _ _
      | exact fleet_sound.mono _ _ _ _ _ _ _ _ _ _ _ _ _ _ _
      | exact LeO.none _
      | refine LeO.ite ?_ ?_
      | refine LeO.bind ?_ (fun _ => ?_)
    · intro y0 y1 y2 y3
      unfold fleet_ValidateModels.l1
      repeat' first
      | (with_reducible first | exact ih0 _ _ _ _ | exact ih1 _ _ _ _ | exact ih2 _ _ _ _ _ _ _ _ _ _ _ _ _ _ _ _ _ _ _ _ _ | exact fleet_sound.mono _ _ _ _ _ _ _ _ _ _ _ _ _ _ _ | exact LeO.refl _ | exact LeO.none _ | refine LeO.ite ?_ ?_ | refine LeO.bind ?_ (fun _ => ?_))
      | exact ih0 _ _ _ _
      | exact ih1 _ _ _ _
      | exact ih2 _ _ _ _ _ _ _ _ _ _ _ _ _ _ _ _ _ _ _ _ _
      | exact fleet_sound.mono _ _ _ _ _ _ _ _ _ _ _ _ _ _ _
      | exact LeO.none _
      | refine LeO.ite ?_ ?_
      | refine LeO.bind ?_ (fun _ => ?_)
    · intro y0 y1 y2 y3 y4 y5 y6 y7 y8 y9 y10 y11 y12 y13 y14 y15 y16 y17 y18 y19 y20
      unfold fleet_ValidateModels.l2
      repeat' first
      | (with_reducible first | exact ih0 _ _ _ _ | exact ih1 _ _ _ _ | exact ih2 _ _ _ _ _ _ _ _ _ _ _ _ _ _ _ _ _ _ _ _ _ | exact fleet_sound.mono _ _ _ _ _ _ _ _ _ _ _ _ _ _ _ | exact LeO.refl _ | exact LeO.none _ | refine LeO.ite ?_ ?_ | refine LeO.bind ?_ (fun _ => ?_))
      | exact ih0 _ _ _ _
      | exact ih1 _ _ _ _
      | exact ih2 _ _ _ _ _ _ _ _ _ _ _ _ _ _ _ _ _ _ _ _ _
      | exact fleet_sound.mono _ _ _ _ _ _ _ _ _ _ _ _ _ _ _
      | exact LeO.none _
      | refine LeO.ite ?_ ?_
      | refine LeO.bind ?_ (fun _ => ?_)
theorem fleet_ValidateModels.mono : ∀ a0 k, LeO (fleet_ValidateModels.f k a0) (fleet_ValidateModels.f (k + 1) a0) := by
  intro a0 k
  obtain ⟨ih0, ih1, ih2⟩ := fleet_ValidateModels.mono_l k
  unfold fleet_ValidateModels.f
  repeat' first
      | (with_reducible first | exact ih0 _ _ _ _ | exact ih1 _ _ _ _ | exact ih2 _ _ _ _ _ _ _ _ _ _ _ _ _ _ _ _ _ _ _ _ _ | exact fleet_sound.mono _ _ _ _ _ _ _ _ _ _ _ _ _ _ _ | exact LeO.refl _ | exact LeO.none _ | refine LeO.ite ?_ ?_ | refine LeO.bind ?_ (fun _ => ?_))
      | exact ih0 _ _ _ _
      | exact ih1 _ _ _ _
      | exact ih2 _ _ _ _ _ _ _ _ _ _ _ _ _ _ _ _ _ _ _ _ _
      | exact fleet_sound.mono _ _ _ _ _ _ _ _ _ _ _ _ _ _ _
      | exact LeO.none _
      | refine LeO.ite ?_ ?_
      | refine LeO.bind ?_ (fun _ => ?_)
set_option maxHeartbeats 8000000 in
set_option maxRecDepth 100000 in
theorem fleet_ValidateModels.calls (k : Nat) (A0 : Option Addr) (c0 : Nat) (l0 : List (S52)) (r : Int) (w : World) (hr0 : Kd.C k52 w A0 l0.length l0) (hc0 : l0.length ≤ c0) (h : fleet_ValidateModels.f k l0 = some r) :
    Calls Try.prog 37 #[.slice A0 l0.length c0] w fun e w' => e = .returned (.int .i64 r) ∧ Below w.heap.size w w' := by
 have hu52 := Try.underlying52
 have HR0 := Aside0.mk hr0
 have HC0 := Aside0.mk hc0
 clear hr0 hc0
 have HB := Aside0.mk (Below.refl w.heap.size w)
 have H : (if (l0.length : Int) > 40 then (some 4) else (fleet_ValidateModels.l0 k l0 l0 (l0.length : Int) 0)) = some r := h
 clear h
 by_cases c2 : (l0.length : Int) > 40
 ·rw [if_pos c2] at H
  have c2b0 : decide (40 < (l0.length : Int)) = true := decide_eq_true c2
  have c2b1 : decide (40 < l0.length) = true := decide_eq_true (by omega)
  clear c2
  obtain rfl := Option.some.inj H
  go_enter Try.func37, Try.ntmps37
  go_wp2
  go_ret
  exact ⟨tE_, dL_ HB⟩
 ·rw [if_neg c2] at H
  have c2b0 : decide (40 < (l0.length : Int)) = false := decide_eq_false c2
  have c2b1 : decide (40 < l0.length) = false := decide_eq_false (by omega)
  clear c2
  have H' := Aside0.mk H
  clear H
  go_enter Try.func37, Try.ntmps37
  go_wp2
  go_loopg [14] k (fun kq v14 w' => ∃ (x14_1 : Int), v14 = .int .i64 x14_1 ∧ Aside0 (fleet_ValidateModels.l0 kq l0 l0 (l0.length : Int) x14_1 = some r) ∧ Aside0 (kq ≤ k) ∧ Aside0 (Below w.heap.size w w'))
  case atStart => exact ⟨(0), tS_, H', ⟨Nat.le_refl _⟩, ⟨dL_ HB⟩⟩
  case round =>
   clear H'
   try clear c2
   try clear c2b0
   try clear c2b1
   obtain ⟨x14_1, rfl, HA, HK1, HB⟩ := hrel
   cases gk with
   | zero => exact absurd HA.out (by simp [fleet_ValidateModels.l0])
   | succ k1 =>
    have H := HA.out
    clear HA
    simp only [fleet_ValidateModels.l0] at H
    by_cases c3 : x14_1 < (l0.length : Int)
    ·rw [if_pos c3] at H
     have c3b0 : decide (x14_1 < (l0.length : Int)) = true := decide_eq_true c3
     clear c3
     by_cases c4 : 0 ≤ x14_1
     ·rw [if_pos c4] at H
      have c4b0 : decide (0 ≤ x14_1) = true := decide_eq_true c4
      clear c4
      by_cases c5 : x14_1 < (l0.length : Int)
      ·rw [if_pos c5] at H
       have c5b0 : decide (x14_1 < (l0.length : Int)) = true := decide_eq_true c5
       clear c5
       replace H := Option.bind_eq_some_iff.mp H
       obtain ⟨t158, A60, H⟩ := H
       replace H : (if t158 = true then (fleet_ValidateModels.l0 k1 l0 l0 (l0.length : Int) (wrap64 (x14_1 + 1))) else (some 1)) = some r := H
       have A6 := Aside0.mk A60
       clear A60
       by_cases c7 : t158 = true
       ·subst c7
        have H1 : (fleet_ValidateModels.l0 k1 l0 l0 (l0.length : Int) (wrap64 (x14_1 + 1))) = some r := by rw [if_pos rfl] at H; exact H
        clear H
        have H := H1
        clear H1
        have H' := Aside0.mk H
        clear H
        have p156 : 0 ≤ (x14_1 : Int) := of_decide_eq_true tW_
        have q156 : x14_1 < (l0.length : Int) := of_decide_eq_true tW_
        obtain ⟨ad156, e156, hx156_0, hx156_1, hx156_2, hx156_3, hx156_4, hx156_5, hx156_6, hx156_7, hx156_8, hx156_9, hx156_10, hx156_11, hx156_12, hx156_13⟩ := at_T52 HR0.out x14_1 p156 q156
        cases e156
        replace hx156_0 := bc_ HB hx156_0
        replace hx156_1 := bc_ HB hx156_1
        replace hx156_2 := bc_ HB hx156_2
        replace hx156_3 := bc_ HB hx156_3
        replace hx156_4 := bc_ HB hx156_4
        replace hx156_5 := bc_ HB hx156_5
        replace hx156_6 := bc_ HB hx156_6
        replace hx156_7 := bc_ HB hx156_7
        replace hx156_8 := bc_ HB hx156_8
        replace hx156_9 := bc_ HB hx156_9
        replace hx156_10 := bc_ HB hx156_10
        replace hx156_11 := bc_ HB hx156_11
        replace hx156_12 := bc_ HB hx156_12
        replace hx156_13 := bc_ HB hx156_13
        replace p156 := eq_true p156
        replace q156 := eq_true q156
        go_wp2_with (first | ((with_reducible refine gate_dst (N := 4) rfl ?_); refine box_event ?hg (N := 4) ?hd (cs := #[.string (⟨#[]⟩ : ByteArray), .int .i64 0, .int .i64 0, .int .i64 0, .int .i64 0, .int .i64 0, .int .i64 0, .int .i64 0, .int .i64 0, .int .i64 0, .int .i64 0, .int .i64 0, .int .i64 0, .bool false]) (t := 52) ?hr ?_; (case hd => rfl); (case hg => rfl); (case hr => first | (go_simp; done) | (go_simp; rfl)); intro gb157 hg w8 hbox hb; have BK157 := Aside0.mk (hbox); have GW157 := Aside0.mk ((dS_ hg (dL_ HB) : w.heap.size ≤ gb157)); have GE157 := Aside0.mk ((dS_ hg (dL_ HB) : w.heap.size ≤ gb157)); replace HB := Aside0.mk (below_step (dL_ HB) hb); clear hb hbox hg; obtain ⟨hcz9_0, hcz9_1, hcz9_2, hcz9_3, hcz9_4, hcz9_5, hcz9_6, hcz9_7, hcz9_8, hcz9_9, hcz9_10, hcz9_11, hcz9_12, hcz9_13, hfz9_0, hfz9_1, hfz9_2, hfz9_3, hfz9_4, hfz9_5, hfz9_6, hfz9_7, hfz9_8, hfz9_9, hfz9_10, hfz9_11, hfz9_12, hfz9_13⟩ := cs14_ BK157.out) | ((with_reducible refine gate_callee (f := 47) rfl ?_); refine goesL_ (some 19) rfl rfl Try.func47 (by kernel_rfl) rfl #[.agg #[.string ((rd_T52 l0 x14_1).f0), .int .i64 ((rd_T52 l0 x14_1).f1), .int .i64 ((rd_T52 l0 x14_1).f2), .int .i64 ((rd_T52 l0 x14_1).f3), .int .i64 ((rd_T52 l0 x14_1).f4), .int .i64 ((rd_T52 l0 x14_1).f5), .int .i64 ((rd_T52 l0 x14_1).f6), .int .i64 ((rd_T52 l0 x14_1).f7), .int .i64 ((rd_T52 l0 x14_1).f8), .int .i64 ((rd_T52 l0 x14_1).f9), .int .i64 ((rd_T52 l0 x14_1).f10), .int .i64 ((rd_T52 l0 x14_1).f11), .int .i64 ((rd_T52 l0 x14_1).f12), .bool ((rd_T52 l0 x14_1).f13)]] rfl tA_ ?_; (with_reducible refine (fleet_sound.calls k1 ((rd_T52 l0 x14_1).f0) ((rd_T52 l0 x14_1).f1) ((rd_T52 l0 x14_1).f2) ((rd_T52 l0 x14_1).f3) ((rd_T52 l0 x14_1).f4) ((rd_T52 l0 x14_1).f5) ((rd_T52 l0 x14_1).f6) ((rd_T52 l0 x14_1).f7) ((rd_T52 l0 x14_1).f8) ((rd_T52 l0 x14_1).f9) ((rd_T52 l0 x14_1).f10) ((rd_T52 l0 x14_1).f11) ((rd_T52 l0 x14_1).f12) ((rd_T52 l0 x14_1).f13) true _ A6.out).mono ?_); rintro e w10 ⟨rfl, hb⟩; refine ⟨_, rfl, ?_⟩; replace BK157 := Aside0.mk (blk_below (g := gb157) (o := .cells #[.string ((rd_T52 l0 x14_1).f0), .int .i64 ((rd_T52 l0 x14_1).f1), .int .i64 ((rd_T52 l0 x14_1).f2), .int .i64 ((rd_T52 l0 x14_1).f3), .int .i64 ((rd_T52 l0 x14_1).f4), .int .i64 ((rd_T52 l0 x14_1).f5), .int .i64 ((rd_T52 l0 x14_1).f6), .int .i64 ((rd_T52 l0 x14_1).f7), .int .i64 ((rd_T52 l0 x14_1).f8), .int .i64 ((rd_T52 l0 x14_1).f9), .int .i64 ((rd_T52 l0 x14_1).f10), .int .i64 ((rd_T52 l0 x14_1).f11), .int .i64 ((rd_T52 l0 x14_1).f12), .bool ((rd_T52 l0 x14_1).f13)] 52 (0, 0)) (by (with_reducible repeat (first | refine blk_drewN ?_ _ | refine blk_drew ?_ | refine blk_alloc ?_ _)); refine blk_put (cs := #[.string ((rd_T52 l0 x14_1).f0), .int .i64 ((rd_T52 l0 x14_1).f1), .int .i64 ((rd_T52 l0 x14_1).f2), .int .i64 ((rd_T52 l0 x14_1).f3), .int .i64 ((rd_T52 l0 x14_1).f4), .int .i64 ((rd_T52 l0 x14_1).f5), .int .i64 ((rd_T52 l0 x14_1).f6), .int .i64 ((rd_T52 l0 x14_1).f7), .int .i64 ((rd_T52 l0 x14_1).f8), .int .i64 ((rd_T52 l0 x14_1).f9), .int .i64 ((rd_T52 l0 x14_1).f10), .int .i64 ((rd_T52 l0 x14_1).f11), .int .i64 ((rd_T52 l0 x14_1).f12), .bool false]) ?_ 13 _ rfl; (with_reducible repeat (first | refine blk_drewN ?_ _ | refine blk_drew ?_ | refine blk_alloc ?_ _)); refine blk_put (cs := #[.string ((rd_T52 l0 x14_1).f0), .int .i64 ((rd_T52 l0 x14_1).f1), .int .i64 ((rd_T52 l0 x14_1).f2), .int .i64 ((rd_T52 l0 x14_1).f3), .int .i64 ((rd_T52 l0 x14_1).f4), .int .i64 ((rd_T52 l0 x14_1).f5), .int .i64 ((rd_T52 l0 x14_1).f6), .int .i64 ((rd_T52 l0 x14_1).f7), .int .i64 ((rd_T52 l0 x14_1).f8), .int .i64 ((rd_T52 l0 x14_1).f9), .int .i64 ((rd_T52 l0 x14_1).f10), .int .i64 ((rd_T52 l0 x14_1).f11), .int .i64 0, .bool false]) ?_ 12 _ rfl; (with_reducible repeat (first | refine blk_drewN ?_ _ | refine blk_drew ?_ | refine blk_alloc ?_ _)); refine blk_put (cs := #[.string ((rd_T52 l0 x14_1).f0), .int .i64 ((rd_T52 l0 x14_1).f1), .int .i64 ((rd_T52 l0 x14_1).f2), .int .i64 ((rd_T52 l0 x14_1).f3), .int .i64 ((rd_T52 l0 x14_1).f4), .int .i64 ((rd_T52 l0 x14_1).f5), .int .i64 ((rd_T52 l0 x14_1).f6), .int .i64 ((rd_T52 l0 x14_1).f7), .int .i64 ((rd_T52 l0 x14_1).f8), .int .i64 ((rd_T52 l0 x14_1).f9), .int .i64 ((rd_T52 l0 x14_1).f10), .int .i64 0, .int .i64 0, .bool false]) ?_ 11 _ rfl; (with_reducible repeat (first | refine blk_drewN ?_ _ | refine blk_drew ?_ | refine blk_alloc ?_ _)); refine blk_put (cs := #[.string ((rd_T52 l0 x14_1).f0), .int .i64 ((rd_T52 l0 x14_1).f1), .int .i64 ((rd_T52 l0 x14_1).f2), .int .i64 ((rd_T52 l0 x14_1).f3), .int .i64 ((rd_T52 l0 x14_1).f4), .int .i64 ((rd_T52 l0 x14_1).f5), .int .i64 ((rd_T52 l0 x14_1).f6), .int .i64 ((rd_T52 l0 x14_1).f7), .int .i64 ((rd_T52 l0 x14_1).f8), .int .i64 ((rd_T52 l0 x14_1).f9), .int .i64 0, .int .i64 0, .int .i64 0, .bool false]) ?_ 10 _ rfl; (with_reducible repeat (first | refine blk_drewN ?_ _ | refine blk_drew ?_ | refine blk_alloc ?_ _)); refine blk_put (cs := #[.string ((rd_T52 l0 x14_1).f0), .int .i64 ((rd_T52 l0 x14_1).f1), .int .i64 ((rd_T52 l0 x14_1).f2), .int .i64 ((rd_T52 l0 x14_1).f3), .int .i64 ((rd_T52 l0 x14_1).f4), .int .i64 ((rd_T52 l0 x14_1).f5), .int .i64 ((rd_T52 l0 x14_1).f6), .int .i64 ((rd_T52 l0 x14_1).f7), .int .i64 ((rd_T52 l0 x14_1).f8), .int .i64 0, .int .i64 0, .int .i64 0, .int .i64 0, .bool false]) ?_ 9 _ rfl; (with_reducible repeat (first | refine blk_drewN ?_ _ | refine blk_drew ?_ | refine blk_alloc ?_ _)); refine blk_put (cs := #[.string ((rd_T52 l0 x14_1).f0), .int .i64 ((rd_T52 l0 x14_1).f1), .int .i64 ((rd_T52 l0 x14_1).f2), .int .i64 ((rd_T52 l0 x14_1).f3), .int .i64 ((rd_T52 l0 x14_1).f4), .int .i64 ((rd_T52 l0 x14_1).f5), .int .i64 ((rd_T52 l0 x14_1).f6), .int .i64 ((rd_T52 l0 x14_1).f7), .int .i64 0, .int .i64 0, .int .i64 0, .int .i64 0, .int .i64 0, .bool false]) ?_ 8 _ rfl; (with_reducible repeat (first | refine blk_drewN ?_ _ | refine blk_drew ?_ | refine blk_alloc ?_ _)); refine blk_put (cs := #[.string ((rd_T52 l0 x14_1).f0), .int .i64 ((rd_T52 l0 x14_1).f1), .int .i64 ((rd_T52 l0 x14_1).f2), .int .i64 ((rd_T52 l0 x14_1).f3), .int .i64 ((rd_T52 l0 x14_1).f4), .int .i64 ((rd_T52 l0 x14_1).f5), .int .i64 ((rd_T52 l0 x14_1).f6), .int .i64 0, .int .i64 0, .int .i64 0, .int .i64 0, .int .i64 0, .int .i64 0, .bool false]) ?_ 7 _ rfl; (with_reducible repeat (first | refine blk_drewN ?_ _ | refine blk_drew ?_ | refine blk_alloc ?_ _)); refine blk_put (cs := #[.string ((rd_T52 l0 x14_1).f0), .int .i64 ((rd_T52 l0 x14_1).f1), .int .i64 ((rd_T52 l0 x14_1).f2), .int .i64 ((rd_T52 l0 x14_1).f3), .int .i64 ((rd_T52 l0 x14_1).f4), .int .i64 ((rd_T52 l0 x14_1).f5), .int .i64 0, .int .i64 0, .int .i64 0, .int .i64 0, .int .i64 0, .int .i64 0, .int .i64 0, .bool false]) ?_ 6 _ rfl; (with_reducible repeat (first | refine blk_drewN ?_ _ | refine blk_drew ?_ | refine blk_alloc ?_ _)); refine blk_put (cs := #[.string ((rd_T52 l0 x14_1).f0), .int .i64 ((rd_T52 l0 x14_1).f1), .int .i64 ((rd_T52 l0 x14_1).f2), .int .i64 ((rd_T52 l0 x14_1).f3), .int .i64 ((rd_T52 l0 x14_1).f4), .int .i64 0, .int .i64 0, .int .i64 0, .int .i64 0, .int .i64 0, .int .i64 0, .int .i64 0, .int .i64 0, .bool false]) ?_ 5 _ rfl; (with_reducible repeat (first | refine blk_drewN ?_ _ | refine blk_drew ?_ | refine blk_alloc ?_ _)); refine blk_put (cs := #[.string ((rd_T52 l0 x14_1).f0), .int .i64 ((rd_T52 l0 x14_1).f1), .int .i64 ((rd_T52 l0 x14_1).f2), .int .i64 ((rd_T52 l0 x14_1).f3), .int .i64 0, .int .i64 0, .int .i64 0, .int .i64 0, .int .i64 0, .int .i64 0, .int .i64 0, .int .i64 0, .int .i64 0, .bool false]) ?_ 4 _ rfl; (with_reducible repeat (first | refine blk_drewN ?_ _ | refine blk_drew ?_ | refine blk_alloc ?_ _)); refine blk_put (cs := #[.string ((rd_T52 l0 x14_1).f0), .int .i64 ((rd_T52 l0 x14_1).f1), .int .i64 ((rd_T52 l0 x14_1).f2), .int .i64 0, .int .i64 0, .int .i64 0, .int .i64 0, .int .i64 0, .int .i64 0, .int .i64 0, .int .i64 0, .int .i64 0, .int .i64 0, .bool false]) ?_ 3 _ rfl; (with_reducible repeat (first | refine blk_drewN ?_ _ | refine blk_drew ?_ | refine blk_alloc ?_ _)); refine blk_put (cs := #[.string ((rd_T52 l0 x14_1).f0), .int .i64 ((rd_T52 l0 x14_1).f1), .int .i64 0, .int .i64 0, .int .i64 0, .int .i64 0, .int .i64 0, .int .i64 0, .int .i64 0, .int .i64 0, .int .i64 0, .int .i64 0, .int .i64 0, .bool false]) ?_ 2 _ rfl; (with_reducible repeat (first | refine blk_drewN ?_ _ | refine blk_drew ?_ | refine blk_alloc ?_ _)); refine blk_put (cs := #[.string ((rd_T52 l0 x14_1).f0), .int .i64 0, .int .i64 0, .int .i64 0, .int .i64 0, .int .i64 0, .int .i64 0, .int .i64 0, .int .i64 0, .int .i64 0, .int .i64 0, .int .i64 0, .int .i64 0, .bool false]) ?_ 1 _ rfl; (with_reducible repeat (first | refine blk_drewN ?_ _ | refine blk_drew ?_ | refine blk_alloc ?_ _)); refine blk_put (cs := #[.string (⟨#[]⟩ : ByteArray), .int .i64 0, .int .i64 0, .int .i64 0, .int .i64 0, .int .i64 0, .int .i64 0, .int .i64 0, .int .i64 0, .int .i64 0, .int .i64 0, .int .i64 0, .int .i64 0, .bool false]) ?_ 0 _ rfl; (with_reducible repeat (first | refine blk_drewN ?_ _ | refine blk_drew ?_ | refine blk_alloc ?_ _)); exact BK157.out) hb); replace HB := Aside0.mk (below_step (dL1_ HB GE157) hb)))
        go_roundg k1
        case measure => have := HK1.out; omega
        case rel => exact ⟨(wrap64 (x14_1 + 1)), tS_, H', ⟨by have := HK1.out; omega⟩, ⟨dL1_ HB GE157⟩⟩
       ·replace c7 := Bool.eq_false_iff.mpr c7
        subst c7
        have H1 : (some 1) = some r := by rw [if_neg (show ¬ (false = true) by decide)] at H; exact H
        clear H
        have H := H1
        clear H1
        obtain rfl := Option.some.inj H
        have p156 : 0 ≤ (x14_1 : Int) := of_decide_eq_true tW_
        have q156 : x14_1 < (l0.length : Int) := of_decide_eq_true tW_
        obtain ⟨ad156, e156, hx156_0, hx156_1, hx156_2, hx156_3, hx156_4, hx156_5, hx156_6, hx156_7, hx156_8, hx156_9, hx156_10, hx156_11, hx156_12, hx156_13⟩ := at_T52 HR0.out x14_1 p156 q156
        cases e156
        replace hx156_0 := bc_ HB hx156_0
        replace hx156_1 := bc_ HB hx156_1
        replace hx156_2 := bc_ HB hx156_2
        replace hx156_3 := bc_ HB hx156_3
        replace hx156_4 := bc_ HB hx156_4
        replace hx156_5 := bc_ HB hx156_5
        replace hx156_6 := bc_ HB hx156_6
        replace hx156_7 := bc_ HB hx156_7
        replace hx156_8 := bc_ HB hx156_8
        replace hx156_9 := bc_ HB hx156_9
        replace hx156_10 := bc_ HB hx156_10
        replace hx156_11 := bc_ HB hx156_11
        replace hx156_12 := bc_ HB hx156_12
        replace hx156_13 := bc_ HB hx156_13
        replace p156 := eq_true p156
        replace q156 := eq_true q156
        go_wp2_with (first | ((with_reducible refine gate_dst (N := 4) rfl ?_); refine box_event ?hg (N := 4) ?hd (cs := #[.string (⟨#[]⟩ : ByteArray), .int .i64 0, .int .i64 0, .int .i64 0, .int .i64 0, .int .i64 0, .int .i64 0, .int .i64 0, .int .i64 0, .int .i64 0, .int .i64 0, .int .i64 0, .int .i64 0, .bool false]) (t := 52) ?hr ?_; (case hd => rfl); (case hg => rfl); (case hr => first | (go_simp; done) | (go_simp; rfl)); intro gb157 hg w11 hbox hb; have BK157 := Aside0.mk (hbox); have GW157 := Aside0.mk ((dS_ hg (dL_ HB) : w.heap.size ≤ gb157)); have GE157 := Aside0.mk ((dS_ hg (dL_ HB) : w.heap.size ≤ gb157)); replace HB := Aside0.mk (below_step (dL_ HB) hb); clear hb hbox hg; obtain ⟨hcz12_0, hcz12_1, hcz12_2, hcz12_3, hcz12_4, hcz12_5, hcz12_6, hcz12_7, hcz12_8, hcz12_9, hcz12_10, hcz12_11, hcz12_12, hcz12_13, hfz12_0, hfz12_1, hfz12_2, hfz12_3, hfz12_4, hfz12_5, hfz12_6, hfz12_7, hfz12_8, hfz12_9, hfz12_10, hfz12_11, hfz12_12, hfz12_13⟩ := cs14_ BK157.out) | ((with_reducible refine gate_callee (f := 47) rfl ?_); refine goesL_ (some 19) rfl rfl Try.func47 (by kernel_rfl) rfl #[.agg #[.string ((rd_T52 l0 x14_1).f0), .int .i64 ((rd_T52 l0 x14_1).f1), .int .i64 ((rd_T52 l0 x14_1).f2), .int .i64 ((rd_T52 l0 x14_1).f3), .int .i64 ((rd_T52 l0 x14_1).f4), .int .i64 ((rd_T52 l0 x14_1).f5), .int .i64 ((rd_T52 l0 x14_1).f6), .int .i64 ((rd_T52 l0 x14_1).f7), .int .i64 ((rd_T52 l0 x14_1).f8), .int .i64 ((rd_T52 l0 x14_1).f9), .int .i64 ((rd_T52 l0 x14_1).f10), .int .i64 ((rd_T52 l0 x14_1).f11), .int .i64 ((rd_T52 l0 x14_1).f12), .bool ((rd_T52 l0 x14_1).f13)]] rfl tA_ ?_; (with_reducible refine (fleet_sound.calls k1 ((rd_T52 l0 x14_1).f0) ((rd_T52 l0 x14_1).f1) ((rd_T52 l0 x14_1).f2) ((rd_T52 l0 x14_1).f3) ((rd_T52 l0 x14_1).f4) ((rd_T52 l0 x14_1).f5) ((rd_T52 l0 x14_1).f6) ((rd_T52 l0 x14_1).f7) ((rd_T52 l0 x14_1).f8) ((rd_T52 l0 x14_1).f9) ((rd_T52 l0 x14_1).f10) ((rd_T52 l0 x14_1).f11) ((rd_T52 l0 x14_1).f12) ((rd_T52 l0 x14_1).f13) false _ A6.out).mono ?_); rintro e w13 ⟨rfl, hb⟩; refine ⟨_, rfl, ?_⟩; replace BK157 := Aside0.mk (blk_below (g := gb157) (o := .cells #[.string ((rd_T52 l0 x14_1).f0), .int .i64 ((rd_T52 l0 x14_1).f1), .int .i64 ((rd_T52 l0 x14_1).f2), .int .i64 ((rd_T52 l0 x14_1).f3), .int .i64 ((rd_T52 l0 x14_1).f4), .int .i64 ((rd_T52 l0 x14_1).f5), .int .i64 ((rd_T52 l0 x14_1).f6), .int .i64 ((rd_T52 l0 x14_1).f7), .int .i64 ((rd_T52 l0 x14_1).f8), .int .i64 ((rd_T52 l0 x14_1).f9), .int .i64 ((rd_T52 l0 x14_1).f10), .int .i64 ((rd_T52 l0 x14_1).f11), .int .i64 ((rd_T52 l0 x14_1).f12), .bool ((rd_T52 l0 x14_1).f13)] 52 (0, 0)) (by (with_reducible repeat (first | refine blk_drewN ?_ _ | refine blk_drew ?_ | refine blk_alloc ?_ _)); refine blk_put (cs := #[.string ((rd_T52 l0 x14_1).f0), .int .i64 ((rd_T52 l0 x14_1).f1), .int .i64 ((rd_T52 l0 x14_1).f2), .int .i64 ((rd_T52 l0 x14_1).f3), .int .i64 ((rd_T52 l0 x14_1).f4), .int .i64 ((rd_T52 l0 x14_1).f5), .int .i64 ((rd_T52 l0 x14_1).f6), .int .i64 ((rd_T52 l0 x14_1).f7), .int .i64 ((rd_T52 l0 x14_1).f8), .int .i64 ((rd_T52 l0 x14_1).f9), .int .i64 ((rd_T52 l0 x14_1).f10), .int .i64 ((rd_T52 l0 x14_1).f11), .int .i64 ((rd_T52 l0 x14_1).f12), .bool false]) ?_ 13 _ rfl; (with_reducible repeat (first | refine blk_drewN ?_ _ | refine blk_drew ?_ | refine blk_alloc ?_ _)); refine blk_put (cs := #[.string ((rd_T52 l0 x14_1).f0), .int .i64 ((rd_T52 l0 x14_1).f1), .int .i64 ((rd_T52 l0 x14_1).f2), .int .i64 ((rd_T52 l0 x14_1).f3), .int .i64 ((rd_T52 l0 x14_1).f4), .int .i64 ((rd_T52 l0 x14_1).f5), .int .i64 ((rd_T52 l0 x14_1).f6), .int .i64 ((rd_T52 l0 x14_1).f7), .int .i64 ((rd_T52 l0 x14_1).f8), .int .i64 ((rd_T52 l0 x14_1).f9), .int .i64 ((rd_T52 l0 x14_1).f10), .int .i64 ((rd_T52 l0 x14_1).f11), .int .i64 0, .bool false]) ?_ 12 _ rfl; (with_reducible repeat (first | refine blk_drewN ?_ _ | refine blk_drew ?_ | refine blk_alloc ?_ _)); refine blk_put (cs := #[.string ((rd_T52 l0 x14_1).f0), .int .i64 ((rd_T52 l0 x14_1).f1), .int .i64 ((rd_T52 l0 x14_1).f2), .int .i64 ((rd_T52 l0 x14_1).f3), .int .i64 ((rd_T52 l0 x14_1).f4), .int .i64 ((rd_T52 l0 x14_1).f5), .int .i64 ((rd_T52 l0 x14_1).f6), .int .i64 ((rd_T52 l0 x14_1).f7), .int .i64 ((rd_T52 l0 x14_1).f8), .int .i64 ((rd_T52 l0 x14_1).f9), .int .i64 ((rd_T52 l0 x14_1).f10), .int .i64 0, .int .i64 0, .bool false]) ?_ 11 _ rfl; (with_reducible repeat (first | refine blk_drewN ?_ _ | refine blk_drew ?_ | refine blk_alloc ?_ _)); refine blk_put (cs := #[.string ((rd_T52 l0 x14_1).f0), .int .i64 ((rd_T52 l0 x14_1).f1), .int .i64 ((rd_T52 l0 x14_1).f2), .int .i64 ((rd_T52 l0 x14_1).f3), .int .i64 ((rd_T52 l0 x14_1).f4), .int .i64 ((rd_T52 l0 x14_1).f5), .int .i64 ((rd_T52 l0 x14_1).f6), .int .i64 ((rd_T52 l0 x14_1).f7), .int .i64 ((rd_T52 l0 x14_1).f8), .int .i64 ((rd_T52 l0 x14_1).f9), .int .i64 0, .int .i64 0, .int .i64 0, .bool false]) ?_ 10 _ rfl; (with_reducible repeat (first | refine blk_drewN ?_ _ | refine blk_drew ?_ | refine blk_alloc ?_ _)); refine blk_put (cs := #[.string ((rd_T52 l0 x14_1).f0), .int .i64 ((rd_T52 l0 x14_1).f1), .int .i64 ((rd_T52 l0 x14_1).f2), .int .i64 ((rd_T52 l0 x14_1).f3), .int .i64 ((rd_T52 l0 x14_1).f4), .int .i64 ((rd_T52 l0 x14_1).f5), .int .i64 ((rd_T52 l0 x14_1).f6), .int .i64 ((rd_T52 l0 x14_1).f7), .int .i64 ((rd_T52 l0 x14_1).f8), .int .i64 0, .int .i64 0, .int .i64 0, .int .i64 0, .bool false]) ?_ 9 _ rfl; (with_reducible repeat (first | refine blk_drewN ?_ _ | refine blk_drew ?_ | refine blk_alloc ?_ _)); refine blk_put (cs := #[.string ((rd_T52 l0 x14_1).f0), .int .i64 ((rd_T52 l0 x14_1).f1), .int .i64 ((rd_T52 l0 x14_1).f2), .int .i64 ((rd_T52 l0 x14_1).f3), .int .i64 ((rd_T52 l0 x14_1).f4), .int .i64 ((rd_T52 l0 x14_1).f5), .int .i64 ((rd_T52 l0 x14_1).f6), .int .i64 ((rd_T52 l0 x14_1).f7), .int .i64 0, .int .i64 0, .int .i64 0, .int .i64 0, .int .i64 0, .bool false]) ?_ 8 _ rfl; (with_reducible repeat (first | refine blk_drewN ?_ _ | refine blk_drew ?_ | refine blk_alloc ?_ _)); refine blk_put (cs := #[.string ((rd_T52 l0 x14_1).f0), .int .i64 ((rd_T52 l0 x14_1).f1), .int .i64 ((rd_T52 l0 x14_1).f2), .int .i64 ((rd_T52 l0 x14_1).f3), .int .i64 ((rd_T52 l0 x14_1).f4), .int .i64 ((rd_T52 l0 x14_1).f5), .int .i64 ((rd_T52 l0 x14_1).f6), .int .i64 0, .int .i64 0, .int .i64 0, .int .i64 0, .int .i64 0, .int .i64 0, .bool false]) ?_ 7 _ rfl; (with_reducible repeat (first | refine blk_drewN ?_ _ | refine blk_drew ?_ | refine blk_alloc ?_ _)); refine blk_put (cs := #[.string ((rd_T52 l0 x14_1).f0), .int .i64 ((rd_T52 l0 x14_1).f1), .int .i64 ((rd_T52 l0 x14_1).f2), .int .i64 ((rd_T52 l0 x14_1).f3), .int .i64 ((rd_T52 l0 x14_1).f4), .int .i64 ((rd_T52 l0 x14_1).f5), .int .i64 0, .int .i64 0, .int .i64 0, .int .i64 0, .int .i64 0, .int .i64 0, .int .i64 0, .bool false]) ?_ 6 _ rfl; (with_reducible repeat (first | refine blk_drewN ?_ _ | refine blk_drew ?_ | refine blk_alloc ?_ _)); refine blk_put (cs := #[.string ((rd_T52 l0 x14_1).f0), .int .i64 ((rd_T52 l0 x14_1).f1), .int .i64 ((rd_T52 l0 x14_1).f2), .int .i64 ((rd_T52 l0 x14_1).f3), .int .i64 ((rd_T52 l0 x14_1).f4), .int .i64 0, .int .i64 0, .int .i64 0, .int .i64 0, .int .i64 0, .int .i64 0, .int .i64 0, .int .i64 0, .bool false]) ?_ 5 _ rfl; (with_reducible repeat (first | refine blk_drewN ?_ _ | refine blk_drew ?_ | refine blk_alloc ?_ _)); refine blk_put (cs := #[.string ((rd_T52 l0 x14_1).f0), .int .i64 ((rd_T52 l0 x14_1).f1), .int .i64 ((rd_T52 l0 x14_1).f2), .int .i64 ((rd_T52 l0 x14_1).f3), .int .i64 0, .int .i64 0, .int .i64 0, .int .i64 0, .int .i64 0, .int .i64 0, .int .i64 0, .int .i64 0, .int .i64 0, .bool false]) ?_ 4 _ rfl; (with_reducible repeat (first | refine blk_drewN ?_ _ | refine blk_drew ?_ | refine blk_alloc ?_ _)); refine blk_put (cs := #[.string ((rd_T52 l0 x14_1).f0), .int .i64 ((rd_T52 l0 x14_1).f1), .int .i64 ((rd_T52 l0 x14_1).f2), .int .i64 0, .int .i64 0, .int .i64 0, .int .i64 0, .int .i64 0, .int .i64 0, .int .i64 0, .int .i64 0, .int .i64 0, .int .i64 0, .bool false]) ?_ 3 _ rfl; (with_reducible repeat (first | refine blk_drewN ?_ _ | refine blk_drew ?_ | refine blk_alloc ?_ _)); refine blk_put (cs := #[.string ((rd_T52 l0 x14_1).f0), .int .i64 ((rd_T52 l0 x14_1).f1), .int .i64 0, .int .i64 0, .int .i64 0, .int .i64 0, .int .i64 0, .int .i64 0, .int .i64 0, .int .i64 0, .int .i64 0, .int .i64 0, .int .i64 0, .bool false]) ?_ 2 _ rfl; (with_reducible repeat (first | refine blk_drewN ?_ _ | refine blk_drew ?_ | refine blk_alloc ?_ _)); refine blk_put (cs := #[.string ((rd_T52 l0 x14_1).f0), .int .i64 0, .int .i64 0, .int .i64 0, .int .i64 0, .int .i64 0, .int .i64 0, .int .i64 0, .int .i64 0, .int .i64 0, .int .i64 0, .int .i64 0, .int .i64 0, .bool false]) ?_ 1 _ rfl; (with_reducible repeat (first | refine blk_drewN ?_ _ | refine blk_drew ?_ | refine blk_alloc ?_ _)); refine blk_put (cs := #[.string (⟨#[]⟩ : ByteArray), .int .i64 0, .int .i64 0, .int .i64 0, .int .i64 0, .int .i64 0, .int .i64 0, .int .i64 0, .int .i64 0, .int .i64 0, .int .i64 0, .int .i64 0, .int .i64 0, .bool false]) ?_ 0 _ rfl; (with_reducible repeat (first | refine blk_drewN ?_ _ | refine blk_drew ?_ | refine blk_alloc ?_ _)); exact BK157.out) hb); replace HB := Aside0.mk (below_step (dL1_ HB GE157) hb)))
        go_ret
        exact ⟨tE_, dL1_ HB GE157⟩
      ·rw [if_neg c5] at H
       exact absurd H (by simp)
     ·rw [if_neg c4] at H
      exact absurd H (by simp)
    ·rw [if_neg c3] at H
     have c3b0 : decide (x14_1 < (l0.length : Int)) = false := decide_eq_false c3
     clear c3
     have H' := Aside0.mk H
     clear H
     go_wp2
     go_loopg [24] k1 (fun kq v24 w' => ∃ (x24_2 : Int), v24 = .int .i64 x24_2 ∧ Aside0 (fleet_ValidateModels.l1 kq l0 l0 (l0.length : Int) x24_2 = some r) ∧ Aside0 (kq ≤ k1) ∧ Aside0 (Below w.heap.size w w'))
     case atStart => exact ⟨(0), tS_, H', ⟨Nat.le_refl _⟩, ⟨dL_ HB⟩⟩
     case round =>
      clear H'
      try clear c2
      try clear c2b0
      try clear c2b1
      try clear c3
      try clear c3b0
      try clear c4
      try clear c5
      obtain ⟨x24_2, rfl, HA, HK2, HB⟩ := hrel
      cases gk with
      | zero => exact absurd HA.out (by simp [fleet_ValidateModels.l1])
      | succ k2 =>
       have H := HA.out
       clear HA
       simp only [fleet_ValidateModels.l1] at H
       by_cases c14 : x24_2 < (l0.length : Int)
       ·rw [if_pos c14] at H
        have c14b0 : decide (x24_2 < (l0.length : Int)) = true := decide_eq_true c14
        clear c14
        by_cases c15 : 0 ≤ x24_2
        ·rw [if_pos c15] at H
         have c15b0 : decide (0 ≤ x24_2) = true := decide_eq_true c15
         clear c15
         by_cases c16 : x24_2 < (l0.length : Int)
         ·rw [if_pos c16] at H
          have c16b0 : decide (x24_2 < (l0.length : Int)) = true := decide_eq_true c16
          clear c16
          have c17b0 := eq_true (of_decide_eq_true tW_ : 0 ≤ x24_2)
          by_cases c18 : x24_2 ≤ (l0.length : Int)
          ·rw [if_pos c18] at H
           have c18b0 := eq_true c18
           have c18b1 : decide (x24_2 ≤ (l0.length : Int)) = true := decide_eq_true c18
           clear c18
           obtain ⟨y161, hy161⟩ : ∃ y_ : List (S52), y_ = (l0.take (x24_2 : Int).toNat) := ⟨_, rfl⟩
           replace H : (fleet_ValidateModels.l2 k2 l0 l0 (l0.length : Int) x24_2 y161 (y161.length : Int) 0 ((rd_T52 l0 x24_2).f0) ((rd_T52 l0 x24_2).f1) ((rd_T52 l0 x24_2).f2) ((rd_T52 l0 x24_2).f3) ((rd_T52 l0 x24_2).f4) ((rd_T52 l0 x24_2).f5) ((rd_T52 l0 x24_2).f6) ((rd_T52 l0 x24_2).f7) ((rd_T52 l0 x24_2).f8) ((rd_T52 l0 x24_2).f9) ((rd_T52 l0 x24_2).f10) ((rd_T52 l0 x24_2).f11) ((rd_T52 l0 x24_2).f12) ((rd_T52 l0 x24_2).f13)) = some r := by first | (rw [hy161]; with_reducible exact H) | (have H2_ := (Option.bind_some _ _).symm.trans H; rw [hy161]; with_reducible exact H2_) | (have H2_ := (Option.bind_some _ _).symm.trans H; with_reducible exact H2_) | with_reducible exact H | (rw [hy161]; exact H) | exact H
           have Ny161 := Aside0.mk hy161
           clear hy161
           have H' := Aside0.mk H
           clear H
           have p159 : 0 ≤ (x24_2 : Int) := of_decide_eq_true tW_
           have q159 : x24_2 < (l0.length : Int) := of_decide_eq_true tW_
           obtain ⟨ad159, e159, hx159_0, hx159_1, hx159_2, hx159_3, hx159_4, hx159_5, hx159_6, hx159_7, hx159_8, hx159_9, hx159_10, hx159_11, hx159_12, hx159_13⟩ := at_T52 HR0.out x24_2 p159 q159
           cases e159
           replace hx159_0 := bc_ HB hx159_0
           replace hx159_1 := bc_ HB hx159_1
           replace hx159_2 := bc_ HB hx159_2
           replace hx159_3 := bc_ HB hx159_3
           replace hx159_4 := bc_ HB hx159_4
           replace hx159_5 := bc_ HB hx159_5
           replace hx159_6 := bc_ HB hx159_6
           replace hx159_7 := bc_ HB hx159_7
           replace hx159_8 := bc_ HB hx159_8
           replace hx159_9 := bc_ HB hx159_9
           replace hx159_10 := bc_ HB hx159_10
           replace hx159_11 := bc_ HB hx159_11
           replace hx159_12 := bc_ HB hx159_12
           replace hx159_13 := bc_ HB hx159_13
           replace p159 := eq_true p159
           replace q159 := eq_true q159
           go_wp2_with (first | ((with_reducible refine gate_dst (N := 6) rfl ?_); refine box_event ?hg (N := 6) ?hd (cs := #[.string (⟨#[]⟩ : ByteArray), .int .i64 0, .int .i64 0, .int .i64 0, .int .i64 0, .int .i64 0, .int .i64 0, .int .i64 0, .int .i64 0, .int .i64 0, .int .i64 0, .int .i64 0, .int .i64 0, .bool false]) (t := 52) ?hr ?_; (case hd => rfl); (case hg => rfl); (case hr => first | (go_simp; done) | (go_simp; rfl)); intro gb160 hg w19 hbox hb; have BK160 := Aside0.mk (hbox); have GW160 := Aside0.mk ((dS_ hg (dL_ HB) : w.heap.size ≤ gb160)); have GE160 := Aside0.mk ((dS_ hg (dL_ HB) : w.heap.size ≤ gb160)); replace HB := Aside0.mk (below_step (dL_ HB) hb); clear hb hbox hg; obtain ⟨hcz20_0, hcz20_1, hcz20_2, hcz20_3, hcz20_4, hcz20_5, hcz20_6, hcz20_7, hcz20_8, hcz20_9, hcz20_10, hcz20_11, hcz20_12, hcz20_13, hfz20_0, hfz20_1, hfz20_2, hfz20_3, hfz20_4, hfz20_5, hfz20_6, hfz20_7, hfz20_8, hfz20_9, hfz20_10, hfz20_11, hfz20_12, hfz20_13⟩ := cs14_ BK160.out) | ((with_reducible refine gate_store (t := 52) (p := 6) rfl ?_); refine store_event (t := 52) (p := 6) (v := ?vo_w21) (w1 := ((((((((((((((w19.setCell ⟨gb160, 0, none⟩ (.string ((rd_T52 l0 x24_2).f0))).setCell ⟨gb160, 1, none⟩ (.int .i64 ((rd_T52 l0 x24_2).f1))).setCell ⟨gb160, 2, none⟩ (.int .i64 ((rd_T52 l0 x24_2).f2))).setCell ⟨gb160, 3, none⟩ (.int .i64 ((rd_T52 l0 x24_2).f3))).setCell ⟨gb160, 4, none⟩ (.int .i64 ((rd_T52 l0 x24_2).f4))).setCell ⟨gb160, 5, none⟩ (.int .i64 ((rd_T52 l0 x24_2).f5))).setCell ⟨gb160, 6, none⟩ (.int .i64 ((rd_T52 l0 x24_2).f6))).setCell ⟨gb160, 7, none⟩ (.int .i64 ((rd_T52 l0 x24_2).f7))).setCell ⟨gb160, 8, none⟩ (.int .i64 ((rd_T52 l0 x24_2).f8))).setCell ⟨gb160, 9, none⟩ (.int .i64 ((rd_T52 l0 x24_2).f9))).setCell ⟨gb160, 10, none⟩ (.int .i64 ((rd_T52 l0 x24_2).f10))).setCell ⟨gb160, 11, none⟩ (.int .i64 ((rd_T52 l0 x24_2).f11))).setCell ⟨gb160, 12, none⟩ (.int .i64 ((rd_T52 l0 x24_2).f12))).setCell ⟨gb160, 13, none⟩ (.bool ((rd_T52 l0 x24_2).f13)))) ?hg ?ho ?hn ?hr ?_; (case ho => rfl); (case hg => rfl); (case hn => rfl); (case hr => first | (go_simp; done) | (go_simp; rfl)); intro w21 hw; have n0_ : Aside0 (w21.heap[gb160]? = some (.cells #[.string ((rd_T52 l0 x24_2).f0), .int .i64 ((rd_T52 l0 x24_2).f1), .int .i64 ((rd_T52 l0 x24_2).f2), .int .i64 ((rd_T52 l0 x24_2).f3), .int .i64 ((rd_T52 l0 x24_2).f4), .int .i64 ((rd_T52 l0 x24_2).f5), .int .i64 ((rd_T52 l0 x24_2).f6), .int .i64 ((rd_T52 l0 x24_2).f7), .int .i64 ((rd_T52 l0 x24_2).f8), .int .i64 ((rd_T52 l0 x24_2).f9), .int .i64 ((rd_T52 l0 x24_2).f10), .int .i64 ((rd_T52 l0 x24_2).f11), .int .i64 ((rd_T52 l0 x24_2).f12), .bool ((rd_T52 l0 x24_2).f13)] 52 (0, 0))) := ⟨(by rw [hw]; exact (by (with_reducible repeat (first | refine blk_drewN ?_ _ | refine blk_drew ?_ | refine blk_alloc ?_ _)); refine blk_put (cs := #[.string ((rd_T52 l0 x24_2).f0), .int .i64 ((rd_T52 l0 x24_2).f1), .int .i64 ((rd_T52 l0 x24_2).f2), .int .i64 ((rd_T52 l0 x24_2).f3), .int .i64 ((rd_T52 l0 x24_2).f4), .int .i64 ((rd_T52 l0 x24_2).f5), .int .i64 ((rd_T52 l0 x24_2).f6), .int .i64 ((rd_T52 l0 x24_2).f7), .int .i64 ((rd_T52 l0 x24_2).f8), .int .i64 ((rd_T52 l0 x24_2).f9), .int .i64 ((rd_T52 l0 x24_2).f10), .int .i64 ((rd_T52 l0 x24_2).f11), .int .i64 ((rd_T52 l0 x24_2).f12), .bool false]) ?_ 13 _ rfl; (with_reducible repeat (first | refine blk_drewN ?_ _ | refine blk_drew ?_ | refine blk_alloc ?_ _)); refine blk_put (cs := #[.string ((rd_T52 l0 x24_2).f0), .int .i64 ((rd_T52 l0 x24_2).f1), .int .i64 ((rd_T52 l0 x24_2).f2), .int .i64 ((rd_T52 l0 x24_2).f3), .int .i64 ((rd_T52 l0 x24_2).f4), .int .i64 ((rd_T52 l0 x24_2).f5), .int .i64 ((rd_T52 l0 x24_2).f6), .int .i64 ((rd_T52 l0 x24_2).f7), .int .i64 ((rd_T52 l0 x24_2).f8), .int .i64 ((rd_T52 l0 x24_2).f9), .int .i64 ((rd_T52 l0 x24_2).f10), .int .i64 ((rd_T52 l0 x24_2).f11), .int .i64 0, .bool false]) ?_ 12 _ rfl; (with_reducible repeat (first | refine blk_drewN ?_ _ | refine blk_drew ?_ | refine blk_alloc ?_ _)); refine blk_put (cs := #[.string ((rd_T52 l0 x24_2).f0), .int .i64 ((rd_T52 l0 x24_2).f1), .int .i64 ((rd_T52 l0 x24_2).f2), .int .i64 ((rd_T52 l0 x24_2).f3), .int .i64 ((rd_T52 l0 x24_2).f4), .int .i64 ((rd_T52 l0 x24_2).f5), .int .i64 ((rd_T52 l0 x24_2).f6), .int .i64 ((rd_T52 l0 x24_2).f7), .int .i64 ((rd_T52 l0 x24_2).f8), .int .i64 ((rd_T52 l0 x24_2).f9), .int .i64 ((rd_T52 l0 x24_2).f10), .int .i64 0, .int .i64 0, .bool false]) ?_ 11 _ rfl; (with_reducible repeat (first | refine blk_drewN ?_ _ | refine blk_drew ?_ | refine blk_alloc ?_ _)); refine blk_put (cs := #[.string ((rd_T52 l0 x24_2).f0), .int .i64 ((rd_T52 l0 x24_2).f1), .int .i64 ((rd_T52 l0 x24_2).f2), .int .i64 ((rd_T52 l0 x24_2).f3), .int .i64 ((rd_T52 l0 x24_2).f4), .int .i64 ((rd_T52 l0 x24_2).f5), .int .i64 ((rd_T52 l0 x24_2).f6), .int .i64 ((rd_T52 l0 x24_2).f7), .int .i64 ((rd_T52 l0 x24_2).f8), .int .i64 ((rd_T52 l0 x24_2).f9), .int .i64 0, .int .i64 0, .int .i64 0, .bool false]) ?_ 10 _ rfl; (with_reducible repeat (first | refine blk_drewN ?_ _ | refine blk_drew ?_ | refine blk_alloc ?_ _)); refine blk_put (cs := #[.string ((rd_T52 l0 x24_2).f0), .int .i64 ((rd_T52 l0 x24_2).f1), .int .i64 ((rd_T52 l0 x24_2).f2), .int .i64 ((rd_T52 l0 x24_2).f3), .int .i64 ((rd_T52 l0 x24_2).f4), .int .i64 ((rd_T52 l0 x24_2).f5), .int .i64 ((rd_T52 l0 x24_2).f6), .int .i64 ((rd_T52 l0 x24_2).f7), .int .i64 ((rd_T52 l0 x24_2).f8), .int .i64 0, .int .i64 0, .int .i64 0, .int .i64 0, .bool false]) ?_ 9 _ rfl; (with_reducible repeat (first | refine blk_drewN ?_ _ | refine blk_drew ?_ | refine blk_alloc ?_ _)); refine blk_put (cs := #[.string ((rd_T52 l0 x24_2).f0), .int .i64 ((rd_T52 l0 x24_2).f1), .int .i64 ((rd_T52 l0 x24_2).f2), .int .i64 ((rd_T52 l0 x24_2).f3), .int .i64 ((rd_T52 l0 x24_2).f4), .int .i64 ((rd_T52 l0 x24_2).f5), .int .i64 ((rd_T52 l0 x24_2).f6), .int .i64 ((rd_T52 l0 x24_2).f7), .int .i64 0, .int .i64 0, .int .i64 0, .int .i64 0, .int .i64 0, .bool false]) ?_ 8 _ rfl; (with_reducible repeat (first | refine blk_drewN ?_ _ | refine blk_drew ?_ | refine blk_alloc ?_ _)); refine blk_put (cs := #[.string ((rd_T52 l0 x24_2).f0), .int .i64 ((rd_T52 l0 x24_2).f1), .int .i64 ((rd_T52 l0 x24_2).f2), .int .i64 ((rd_T52 l0 x24_2).f3), .int .i64 ((rd_T52 l0 x24_2).f4), .int .i64 ((rd_T52 l0 x24_2).f5), .int .i64 ((rd_T52 l0 x24_2).f6), .int .i64 0, .int .i64 0, .int .i64 0, .int .i64 0, .int .i64 0, .int .i64 0, .bool false]) ?_ 7 _ rfl; (with_reducible repeat (first | refine blk_drewN ?_ _ | refine blk_drew ?_ | refine blk_alloc ?_ _)); refine blk_put (cs := #[.string ((rd_T52 l0 x24_2).f0), .int .i64 ((rd_T52 l0 x24_2).f1), .int .i64 ((rd_T52 l0 x24_2).f2), .int .i64 ((rd_T52 l0 x24_2).f3), .int .i64 ((rd_T52 l0 x24_2).f4), .int .i64 ((rd_T52 l0 x24_2).f5), .int .i64 0, .int .i64 0, .int .i64 0, .int .i64 0, .int .i64 0, .int .i64 0, .int .i64 0, .bool false]) ?_ 6 _ rfl; (with_reducible repeat (first | refine blk_drewN ?_ _ | refine blk_drew ?_ | refine blk_alloc ?_ _)); refine blk_put (cs := #[.string ((rd_T52 l0 x24_2).f0), .int .i64 ((rd_T52 l0 x24_2).f1), .int .i64 ((rd_T52 l0 x24_2).f2), .int .i64 ((rd_T52 l0 x24_2).f3), .int .i64 ((rd_T52 l0 x24_2).f4), .int .i64 0, .int .i64 0, .int .i64 0, .int .i64 0, .int .i64 0, .int .i64 0, .int .i64 0, .int .i64 0, .bool false]) ?_ 5 _ rfl; (with_reducible repeat (first | refine blk_drewN ?_ _ | refine blk_drew ?_ | refine blk_alloc ?_ _)); refine blk_put (cs := #[.string ((rd_T52 l0 x24_2).f0), .int .i64 ((rd_T52 l0 x24_2).f1), .int .i64 ((rd_T52 l0 x24_2).f2), .int .i64 ((rd_T52 l0 x24_2).f3), .int .i64 0, .int .i64 0, .int .i64 0, .int .i64 0, .int .i64 0, .int .i64 0, .int .i64 0, .int .i64 0, .int .i64 0, .bool false]) ?_ 4 _ rfl; (with_reducible repeat (first | refine blk_drewN ?_ _ | refine blk_drew ?_ | refine blk_alloc ?_ _)); refine blk_put (cs := #[.string ((rd_T52 l0 x24_2).f0), .int .i64 ((rd_T52 l0 x24_2).f1), .int .i64 ((rd_T52 l0 x24_2).f2), .int .i64 0, .int .i64 0, .int .i64 0, .int .i64 0, .int .i64 0, .int .i64 0, .int .i64 0, .int .i64 0, .int .i64 0, .int .i64 0, .bool false]) ?_ 3 _ rfl; (with_reducible repeat (first | refine blk_drewN ?_ _ | refine blk_drew ?_ | refine blk_alloc ?_ _)); refine blk_put (cs := #[.string ((rd_T52 l0 x24_2).f0), .int .i64 ((rd_T52 l0 x24_2).f1), .int .i64 0, .int .i64 0, .int .i64 0, .int .i64 0, .int .i64 0, .int .i64 0, .int .i64 0, .int .i64 0, .int .i64 0, .int .i64 0, .int .i64 0, .bool false]) ?_ 2 _ rfl; (with_reducible repeat (first | refine blk_drewN ?_ _ | refine blk_drew ?_ | refine blk_alloc ?_ _)); refine blk_put (cs := #[.string ((rd_T52 l0 x24_2).f0), .int .i64 0, .int .i64 0, .int .i64 0, .int .i64 0, .int .i64 0, .int .i64 0, .int .i64 0, .int .i64 0, .int .i64 0, .int .i64 0, .int .i64 0, .int .i64 0, .bool false]) ?_ 1 _ rfl; (with_reducible repeat (first | refine blk_drewN ?_ _ | refine blk_drew ?_ | refine blk_alloc ?_ _)); refine blk_put (cs := #[.string (⟨#[]⟩ : ByteArray), .int .i64 0, .int .i64 0, .int .i64 0, .int .i64 0, .int .i64 0, .int .i64 0, .int .i64 0, .int .i64 0, .int .i64 0, .int .i64 0, .int .i64 0, .int .i64 0, .bool false]) ?_ 0 _ rfl; (with_reducible repeat (first | refine blk_drewN ?_ _ | refine blk_drew ?_ | refine blk_alloc ?_ _)); exact BK160.out))⟩; have n1_ : Aside0 (Below w.heap.size w w21) := ⟨(by rw [hw]; exact (dL1_ HB GE160))⟩; clear hw; clear BK160; clear HB; have BK160 := n0_; have HB := n1_; clear n0_ n1_; have q22 : (x24_2 : Int) ≤ ((l0.length : Int) : Int) := of_decide_eq_true tW_; obtain ⟨i022, hi022, _, hsz22, _⟩ := info_parts info52; have hroom22 : l0.length ≤ c0 := HC0.out; have hC22 : Kd.C k52 _ (some ad159) l0.length l0 := HR0.out; have hcut22 := cut_to (P := Try.prog) 22 52 .i64 Try.underlying22 hi022 (some ad159) l0.length c0 x24_2 (of_decide_eq_true tW_) q22 hroom22; have hr22 := Kd.C_take (m := (x24_2 : Int).toNat) hC22 (by omega); have hy22 : y161.length = (x24_2 : Int).toNat := (by rw [Ny161.out, List.length_take]; omega); rw [← Ny161.out] at hr22; rw [← hy22] at hcut22; have HR164 := Aside0.mk hr22; have HC164 := Aside0.mk (show y161.length ≤ c0 from by omega); clear hr22 hC22 hroom22 hi022 hsz22; have KY22 := Aside0.mk hy22; clear hy22; replace q22 := eq_true q22))
           go_loopg [33] k2 (fun kq v33 w' => ∃ (x33_3 : Int), v33 = .int .i64 x33_3 ∧ Aside0 (fleet_ValidateModels.l2 kq l0 l0 (l0.length : Int) x24_2 y161 (y161.length : Int) x33_3 ((rd_T52 l0 x24_2).f0) ((rd_T52 l0 x24_2).f1) ((rd_T52 l0 x24_2).f2) ((rd_T52 l0 x24_2).f3) ((rd_T52 l0 x24_2).f4) ((rd_T52 l0 x24_2).f5) ((rd_T52 l0 x24_2).f6) ((rd_T52 l0 x24_2).f7) ((rd_T52 l0 x24_2).f8) ((rd_T52 l0 x24_2).f9) ((rd_T52 l0 x24_2).f10) ((rd_T52 l0 x24_2).f11) ((rd_T52 l0 x24_2).f12) ((rd_T52 l0 x24_2).f13) = some r) ∧ Aside0 (kq ≤ k2) ∧ Aside0 (w'.heap[gb160]? = some (.cells #[.string ((rd_T52 l0 x24_2).f0), .int .i64 ((rd_T52 l0 x24_2).f1), .int .i64 ((rd_T52 l0 x24_2).f2), .int .i64 ((rd_T52 l0 x24_2).f3), .int .i64 ((rd_T52 l0 x24_2).f4), .int .i64 ((rd_T52 l0 x24_2).f5), .int .i64 ((rd_T52 l0 x24_2).f6), .int .i64 ((rd_T52 l0 x24_2).f7), .int .i64 ((rd_T52 l0 x24_2).f8), .int .i64 ((rd_T52 l0 x24_2).f9), .int .i64 ((rd_T52 l0 x24_2).f10), .int .i64 ((rd_T52 l0 x24_2).f11), .int .i64 ((rd_T52 l0 x24_2).f12), .bool ((rd_T52 l0 x24_2).f13)] 52 (0, 0))) ∧ Aside0 (Below w.heap.size w w'))
           case atStart => exact ⟨(0), tS_, H', ⟨Nat.le_refl _⟩, ⟨dB_ BK160⟩, ⟨dL1_ HB GE160⟩⟩
           case round =>
            clear H'
            try clear c2
            try clear c2b0
            try clear c2b1
            try clear c3
            try clear c3b0
            try clear c4
            try clear c5
            try clear c14
            try clear c14b0
            try clear c15
            try clear c15b0
            try clear c16
            try clear c16b0
            try clear c17b0
            try clear c18
            try clear c18b0
            try clear c18b1
            try clear q22
            try clear hcz20_0
            try clear hcz20_1
            try clear hcz20_10
            try clear hcz20_11
            try clear hcz20_12
            try clear hcz20_13
            try clear hcz20_2
            try clear hcz20_3
            try clear hcz20_4
            try clear hcz20_5
            try clear hcz20_6
            try clear hcz20_7
            try clear hcz20_8
            try clear hcz20_9
            try clear hfz20_0
            try clear hfz20_1
            try clear hfz20_10
            try clear hfz20_11
            try clear hfz20_12
            try clear hfz20_13
            try clear hfz20_2
            try clear hfz20_3
            try clear hfz20_4
            try clear hfz20_5
            try clear hfz20_6
            try clear hfz20_7
            try clear hfz20_8
            try clear hfz20_9
            try clear hx159_0
            try clear hx159_1
            try clear hx159_10
            try clear hx159_11
            try clear hx159_12
            try clear hx159_13
            try clear hx159_2
            try clear hx159_3
            try clear hx159_4
            try clear hx159_5
            try clear hx159_6
            try clear hx159_7
            try clear hx159_8
            try clear hx159_9
            try clear p159
            try clear q159
            try clear q22
            obtain ⟨x33_3, rfl, HA, HK3, BK160, HB⟩ := hrel
            cases gk with
            | zero => exact absurd HA.out (by simp [fleet_ValidateModels.l2])
            | succ k3 =>
             have H := HA.out
             clear HA
             simp only [fleet_ValidateModels.l2] at H
             by_cases c23 : x33_3 < (y161.length : Int)
             ·rw [if_pos c23] at H
              have c23b0 : decide (x33_3 < (y161.length : Int)) = true := decide_eq_true c23
              clear c23
              by_cases c24 : 0 ≤ x33_3
              ·rw [if_pos c24] at H
               have c24b0 : decide (0 ≤ x33_3) = true := decide_eq_true c24
               clear c24
               by_cases c25 : x33_3 < (y161.length : Int)
               ·rw [if_pos c25] at H
                have c25b0 : decide (x33_3 < (y161.length : Int)) = true := decide_eq_true c25
                clear c25
                by_cases c26 : ((rd_T52 y161 x33_3).f0).toList = ((rd_T52 l0 x24_2).f0).toList
                ·rw [if_pos c26] at H
                 have c26b0 : (((rd_T52 y161 x33_3).f0).toList == ((rd_T52 l0 x24_2).f0).toList) = true := beq_iff_eq.mpr c26
                 have c26b1 : (((rd_T52 y161 x33_3).f0).toList != ((rd_T52 l0 x24_2).f0).toList) = false := bne_eq_false_iff_eq.mpr c26
                 clear c26
                 obtain rfl := Option.some.inj H
                 have p165 : 0 ≤ (x33_3 : Int) := of_decide_eq_true tW_
                 have q165 : x33_3 < (y161.length : Int) := of_decide_eq_true tW_
                 obtain ⟨ad165, e165, hx165_0, hx165_1, hx165_2, hx165_3, hx165_4, hx165_5, hx165_6, hx165_7, hx165_8, hx165_9, hx165_10, hx165_11, hx165_12, hx165_13⟩ := at_T52 HR164.out x33_3 p165 q165
                 obtain rfl : ad159 = ad165 := (by injection e165)
                 replace hx165_0 := bc_ HB hx165_0
                 replace hx165_1 := bc_ HB hx165_1
                 replace hx165_2 := bc_ HB hx165_2
                 replace hx165_3 := bc_ HB hx165_3
                 replace hx165_4 := bc_ HB hx165_4
                 replace hx165_5 := bc_ HB hx165_5
                 replace hx165_6 := bc_ HB hx165_6
                 replace hx165_7 := bc_ HB hx165_7
                 replace hx165_8 := bc_ HB hx165_8
                 replace hx165_9 := bc_ HB hx165_9
                 replace hx165_10 := bc_ HB hx165_10
                 replace hx165_11 := bc_ HB hx165_11
                 replace hx165_12 := bc_ HB hx165_12
                 replace hx165_13 := bc_ HB hx165_13
                 replace p165 := eq_true p165
                 replace q165 := eq_true q165
                 go_wp2_with (first | ((with_reducible refine gate_dst (N := 8) rfl ?_); refine box_event ?hg (N := 8) ?hd (cs := #[.string (⟨#[]⟩ : ByteArray), .int .i64 0, .int .i64 0, .int .i64 0, .int .i64 0, .int .i64 0, .int .i64 0, .int .i64 0, .int .i64 0, .int .i64 0, .int .i64 0, .int .i64 0, .int .i64 0, .bool false]) (t := 52) ?hr ?_; (case hd => rfl); (case hg => rfl); (case hr => first | (go_simp; done) | (go_simp; rfl)); intro gb166 hg w27 hbox hb; have BK166 := Aside0.mk (hbox); have GW166 := Aside0.mk ((dS_ hg (dL1_ HB GE160) : w.heap.size ≤ gb166)); have GE166 := Aside0.mk ((dS_ hg (dL1_ HB GE160) : w.heap.size ≤ gb166)); replace HB := Aside0.mk (below_step (dL1_ HB GE160) hb); have NB160_166 := Aside0.mk ((by rw [hg]; exact Nat.ne_of_lt (blk_lt (dB_ BK160)) : gb160 ≠ gb166)); have NB166_160 := Aside0.mk ((by rw [hg]; exact Nat.ne_of_gt (blk_lt (dB_ BK160)) : gb166 ≠ gb160)); replace BK160 := Aside0.mk (blk_below (g := gb160) (o := .cells #[.string ((rd_T52 l0 x24_2).f0), .int .i64 ((rd_T52 l0 x24_2).f1), .int .i64 ((rd_T52 l0 x24_2).f2), .int .i64 ((rd_T52 l0 x24_2).f3), .int .i64 ((rd_T52 l0 x24_2).f4), .int .i64 ((rd_T52 l0 x24_2).f5), .int .i64 ((rd_T52 l0 x24_2).f6), .int .i64 ((rd_T52 l0 x24_2).f7), .int .i64 ((rd_T52 l0 x24_2).f8), .int .i64 ((rd_T52 l0 x24_2).f9), .int .i64 ((rd_T52 l0 x24_2).f10), .int .i64 ((rd_T52 l0 x24_2).f11), .int .i64 ((rd_T52 l0 x24_2).f12), .bool ((rd_T52 l0 x24_2).f13)] 52 (0, 0)) (dB_ BK160) hb); clear hb hbox hg; have hnb28 := NB166_160.out; have hnc28 := NB160_166.out; obtain ⟨hcz29_0, hcz29_1, hcz29_2, hcz29_3, hcz29_4, hcz29_5, hcz29_6, hcz29_7, hcz29_8, hcz29_9, hcz29_10, hcz29_11, hcz29_12, hcz29_13, hfz29_0, hfz29_1, hfz29_2, hfz29_3, hfz29_4, hfz29_5, hfz29_6, hfz29_7, hfz29_8, hfz29_9, hfz29_10, hfz29_11, hfz29_12, hfz29_13⟩ := cs14_ BK166.out; obtain ⟨hcz30_0, hcz30_1, hcz30_2, hcz30_3, hcz30_4, hcz30_5, hcz30_6, hcz30_7, hcz30_8, hcz30_9, hcz30_10, hcz30_11, hcz30_12, hcz30_13, hfz30_0, hfz30_1, hfz30_2, hfz30_3, hfz30_4, hfz30_5, hfz30_6, hfz30_7, hfz30_8, hfz30_9, hfz30_10, hfz30_11, hfz30_12, hfz30_13⟩ := cs14_ BK160.out))
                 go_ret
                 exact ⟨tE_, dL2_ HB GE160 GE166⟩
                ·rw [if_neg c26] at H
                 have c26b0 : (((rd_T52 y161 x33_3).f0).toList == ((rd_T52 l0 x24_2).f0).toList) = false := beq_eq_false_iff_ne.mpr c26
                 have c26b1 : (((rd_T52 y161 x33_3).f0).toList != ((rd_T52 l0 x24_2).f0).toList) = true := bne_iff_ne.mpr c26
                 have H' := Aside0.mk H
                 clear H
                 have p165 : 0 ≤ (x33_3 : Int) := of_decide_eq_true tW_
                 have q165 : x33_3 < (y161.length : Int) := of_decide_eq_true tW_
                 obtain ⟨ad165, e165, hx165_0, hx165_1, hx165_2, hx165_3, hx165_4, hx165_5, hx165_6, hx165_7, hx165_8, hx165_9, hx165_10, hx165_11, hx165_12, hx165_13⟩ := at_T52 HR164.out x33_3 p165 q165
                 obtain rfl : ad159 = ad165 := (by injection e165)
                 replace hx165_0 := bc_ HB hx165_0
                 replace hx165_1 := bc_ HB hx165_1
                 replace hx165_2 := bc_ HB hx165_2
                 replace hx165_3 := bc_ HB hx165_3
                 replace hx165_4 := bc_ HB hx165_4
                 replace hx165_5 := bc_ HB hx165_5
                 replace hx165_6 := bc_ HB hx165_6
                 replace hx165_7 := bc_ HB hx165_7
                 replace hx165_8 := bc_ HB hx165_8
                 replace hx165_9 := bc_ HB hx165_9
                 replace hx165_10 := bc_ HB hx165_10
                 replace hx165_11 := bc_ HB hx165_11
                 replace hx165_12 := bc_ HB hx165_12
                 replace hx165_13 := bc_ HB hx165_13
                 replace p165 := eq_true p165
                 replace q165 := eq_true q165
                 go_wp2_with (first | ((with_reducible refine gate_dst (N := 8) rfl ?_); refine box_event ?hg (N := 8) ?hd (cs := #[.string (⟨#[]⟩ : ByteArray), .int .i64 0, .int .i64 0, .int .i64 0, .int .i64 0, .int .i64 0, .int .i64 0, .int .i64 0, .int .i64 0, .int .i64 0, .int .i64 0, .int .i64 0, .int .i64 0, .bool false]) (t := 52) ?hr ?_; (case hd => rfl); (case hg => rfl); (case hr => first | (go_simp; done) | (go_simp; rfl)); intro gb166 hg w31 hbox hb; have BK166 := Aside0.mk (hbox); have GW166 := Aside0.mk ((dS_ hg (dL1_ HB GE160) : w.heap.size ≤ gb166)); have GE166 := Aside0.mk ((dS_ hg (dL1_ HB GE160) : w.heap.size ≤ gb166)); replace HB := Aside0.mk (below_step (dL1_ HB GE160) hb); have NB160_166 := Aside0.mk ((by rw [hg]; exact Nat.ne_of_lt (blk_lt (dB_ BK160)) : gb160 ≠ gb166)); have NB166_160 := Aside0.mk ((by rw [hg]; exact Nat.ne_of_gt (blk_lt (dB_ BK160)) : gb166 ≠ gb160)); replace BK160 := Aside0.mk (blk_below (g := gb160) (o := .cells #[.string ((rd_T52 l0 x24_2).f0), .int .i64 ((rd_T52 l0 x24_2).f1), .int .i64 ((rd_T52 l0 x24_2).f2), .int .i64 ((rd_T52 l0 x24_2).f3), .int .i64 ((rd_T52 l0 x24_2).f4), .int .i64 ((rd_T52 l0 x24_2).f5), .int .i64 ((rd_T52 l0 x24_2).f6), .int .i64 ((rd_T52 l0 x24_2).f7), .int .i64 ((rd_T52 l0 x24_2).f8), .int .i64 ((rd_T52 l0 x24_2).f9), .int .i64 ((rd_T52 l0 x24_2).f10), .int .i64 ((rd_T52 l0 x24_2).f11), .int .i64 ((rd_T52 l0 x24_2).f12), .bool ((rd_T52 l0 x24_2).f13)] 52 (0, 0)) (dB_ BK160) hb); clear hb hbox hg; have hnb32 := NB166_160.out; have hnc32 := NB160_166.out; obtain ⟨hcz33_0, hcz33_1, hcz33_2, hcz33_3, hcz33_4, hcz33_5, hcz33_6, hcz33_7, hcz33_8, hcz33_9, hcz33_10, hcz33_11, hcz33_12, hcz33_13, hfz33_0, hfz33_1, hfz33_2, hfz33_3, hfz33_4, hfz33_5, hfz33_6, hfz33_7, hfz33_8, hfz33_9, hfz33_10, hfz33_11, hfz33_12, hfz33_13⟩ := cs14_ BK166.out; obtain ⟨hcz34_0, hcz34_1, hcz34_2, hcz34_3, hcz34_4, hcz34_5, hcz34_6, hcz34_7, hcz34_8, hcz34_9, hcz34_10, hcz34_11, hcz34_12, hcz34_13, hfz34_0, hfz34_1, hfz34_2, hfz34_3, hfz34_4, hfz34_5, hfz34_6, hfz34_7, hfz34_8, hfz34_9, hfz34_10, hfz34_11, hfz34_12, hfz34_13⟩ := cs14_ BK160.out))
                 go_roundg k3
                 case measure => have := HK1.out; have := HK2.out; have := HK3.out; omega
                 case rel => exact ⟨(wrap64 (x33_3 + 1)), tS_, H', ⟨by have := HK1.out; have := HK2.out; have := HK3.out; omega⟩, ⟨dF14_ BK160 NB160_166⟩, ⟨dL2_ HB GE160 GE166⟩⟩
               ·rw [if_neg c25] at H
                exact absurd H (by simp)
              ·rw [if_neg c24] at H
               exact absurd H (by simp)
             ·rw [if_neg c23] at H
              have c23b0 : decide (x33_3 < (y161.length : Int)) = false := decide_eq_false c23
              clear c23
              have H' := Aside0.mk H
              clear H
              go_wp2
              go_roundg k3
              case measure => have := HK1.out; have := HK2.out; have := HK3.out; omega
              case rel => exact ⟨(wrap64 (x24_2 + 1)), tS_, H', ⟨by have := HK1.out; have := HK2.out; have := HK3.out; omega⟩, ⟨dL1_ HB GE160⟩⟩
          ·rw [if_neg c18] at H
           exact absurd H (by simp)
         ·rw [if_neg c16] at H
          exact absurd H (by simp)
        ·rw [if_neg c15] at H
         exact absurd H (by simp)
       ·rw [if_neg c14] at H
        have c14b0 : decide (x24_2 < (l0.length : Int)) = false := decide_eq_false c14
        clear c14
        obtain rfl := Option.some.inj H
        go_wp2
        go_ret
        exact ⟨tE_, dL_ HB⟩

end Go.Proofs.Ytgnahbjpockdmab.Q
