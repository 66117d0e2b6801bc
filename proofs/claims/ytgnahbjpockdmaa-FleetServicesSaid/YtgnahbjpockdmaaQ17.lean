-- PRINTED by print.py out of the translation. Not trusted: Lean checks it.
import Derived.Test.YtgnahbjpockdmaaPrs
import Derived.Test.YtgnahbjpockdmaaQ0
import Derived.Test.YtgnahbjpockdmaaQ13
namespace Go.Proofs.Ytgnahbjpockdmaa.Q
open Go.RowKit Go.Proofs.YtgnahbjpockdmaaPrs Go.Proofs.YtgnahbjpockdmaaOwn Go.Proofs.YtgnahbjpockdmaaW.PrintWords Go.Proofs.YtgnahbjpockdmaaW.PrintLast Go.Proofs.YtgnahbjpockdmaaW.PrintMore
attribute [local go_sem] max2_int min2_int max_two min_two max_three min_three max_four min_four   -- for this text's walks alone
set_option linter.unusedVariables false
set_option linter.unusedSimpArgs false

/-! ### hinterlandref14_ValidateModels: function 18 -/
mutual
def hinterlandref14_ValidateModels.l0 : Nat → List (S54) → List (S54) → Int → Int → Option (Int)
  | 0, _, _, _, _ => none
  | k + 1, x0, x12, x13, x14 => if x14 < x13 then (if 0 ≤ x14 then (if x14 < (x12.length : Int) then ((hinterlandref14_right.f k ((rd_T54 x12 x14).f0) ((rd_T54 x12 x14).f1) ((rd_T54 x12 x14).f2) ((rd_T54 x12 x14).f3) ((rd_T54 x12 x14).f4) ((rd_T54 x12 x14).f5) ((rd_T54 x12 x14).f6) ((rd_T54 x12 x14).f7) ((rd_T54 x12 x14).f8) ((rd_T54 x12 x14).f9) ((rd_T54 x12 x14).f10) ((rd_T54 x12 x14).f11) ((rd_T54 x12 x14).f12) ((rd_T54 x12 x14).f13)).bind fun t234 => (if t234 = true then (hinterlandref14_ValidateModels.l0 k x0 x12 x13 (wrap64 (x14 + 1))) else (some 1))) else (none)) else (none)) else (hinterlandref14_ValidateModels.l1 k x0 x0 (x0.length : Int) 0)
def hinterlandref14_ValidateModels.l1 : Nat → List (S54) → List (S54) → Int → Int → Option (Int)
  | 0, _, _, _, _ => none
  | k + 1, x0, x22, x23, x24 => if x24 < x23 then (if 0 ≤ x24 then (if x24 < (x22.length : Int) then (if x24 ≤ (x0.length : Int) then ((some (x0.take (x24 : Int).toNat : List (S54))).bind fun y237 => (hinterlandref14_ValidateModels.l2 k x0 x22 x23 x24 y237 (y237.length : Int) 0 ((rd_T54 x22 x24).f0) ((rd_T54 x22 x24).f1) ((rd_T54 x22 x24).f2) ((rd_T54 x22 x24).f3) ((rd_T54 x22 x24).f4) ((rd_T54 x22 x24).f5) ((rd_T54 x22 x24).f6) ((rd_T54 x22 x24).f7) ((rd_T54 x22 x24).f8) ((rd_T54 x22 x24).f9) ((rd_T54 x22 x24).f10) ((rd_T54 x22 x24).f11) ((rd_T54 x22 x24).f12) ((rd_T54 x22 x24).f13))) else (none)) else (none)) else (none)) else (some 0)
def hinterlandref14_ValidateModels.l2 : Nat → List (S54) → List (S54) → Int → Int → List (S54) → Int → Int → ByteArray → Int → Int → Int → Int → Int → Int → Int → Int → Int → Int → Int → Int → Bool → Option (Int)
  | 0, _, _, _, _, _, _, _, _, _, _, _, _, _, _, _, _, _, _, _, _, _ => none
  | k + 1, x0, x22, x23, x24, x31, x32, x33, x237000, x237001, x237002, x237003, x237004, x237005, x237006, x237007, x237008, x237009, x237010, x237011, x237012, x237013 => if x33 < x32 then (if 0 ≤ x33 then (if x33 < (x31.length : Int) then (if ((rd_T54 x31 x33).f0).toList = x237000.toList then (some 3) else (hinterlandref14_ValidateModels.l2 k x0 x22 x23 x24 x31 x32 (wrap64 (x33 + 1)) x237000 x237001 x237002 x237003 x237004 x237005 x237006 x237007 x237008 x237009 x237010 x237011 x237012 x237013)) else (none)) else (none)) else (hinterlandref14_ValidateModels.l1 k x0 x22 x23 (wrap64 (x24 + 1)))
end
def hinterlandref14_ValidateModels.f (k : Nat) (l0 : List (S54)) : Option (Int) := if (l0.length : Int) > 40 then (some 4) else (hinterlandref14_ValidateModels.l0 k l0 l0 (l0.length : Int) 0)
theorem hinterlandref14_ValidateModels.mono_l : ∀ k, (∀ y0 y1 y2 y3, LeO (hinterlandref14_ValidateModels.l0 k y0 y1 y2 y3) (hinterlandref14_ValidateModels.l0 (k + 1) y0 y1 y2 y3)) ∧ (∀ y0 y1 y2 y3, LeO (hinterlandref14_ValidateModels.l1 k y0 y1 y2 y3) (hinterlandref14_ValidateModels.l1 (k + 1) y0 y1 y2 y3)) ∧ (∀ y0 y1 y2 y3 y4 y5 y6 y7 y8 y9 y10 y11 y12 y13 y14 y15 y16 y17 y18 y19 y20, LeO (hinterlandref14_ValidateModels.l2 k y0 y1 y2 y3 y4 y5 y6 y7 y8 y9 y10 y11 y12 y13 y14 y15 y16 y17 y18 y19 y20) (hinterlandref14_ValidateModels.l2 (k + 1) y0 y1 y2 y3 y4 y5 y6 y7 y8 y9 y10 y11 y12 y13 y14 y15 y16 y17 y18 y19 y20))
  | 0 => ⟨fun _ _ _ _ r h => by simp [hinterlandref14_ValidateModels.l0] at h, fun _ _ _ _ r h => by simp [hinterlandref14_ValidateModels.l1] at h, fun _ _ _ _ _ _ _ _ _ _ _ _ _ _ _ _ _ _ _ _ _ r h => by simp [hinterlandref14_ValidateModels.l2] at h⟩
  | k + 1 => by
    obtain ⟨ih0, ih1, ih2⟩ := hinterlandref14_ValidateModels.mono_l k
    refine ⟨?_, ?_, ?_⟩
    · intro y0 y1 y2 y3
      unfold hinterlandref14_ValidateModels.l0
      repeat' first
      | (with_reducible first | exact ih0 _ _ _ _ | exact ih1 _ _ _ _ | exact ih2 _ _ _ _ _ _ _ _ _ _ _ _ _ _ _ _ _ _ _ _ _ | exact hinterlandref14_right.mono _ _ _ _ _ _ _ _ _ _ _ _ _ _ _ | exact LeO.refl _ | exact LeO.none _ | refine LeO.ite ?_ ?_ | refine LeO.bind ?_ (fun _ => ?_))
      | exact ih0 _ _ _ _
      | exact ih1 _ _ _ _
      | exact ih2 _ _ _ _ _ _ _ _ _ _ _ _ _ _ _ _ _ _ _ _ _
      | exact hinterlandref14_right.mono _ _ _ _ _ _ _ _ _ _ _ _ _ _ _
      | exact LeO.none _
      | refine LeO.ite ?_ ?_
      | refine LeO.bind ?_ (fun _ => ?_)
    · intro y0 y1 y2 y3
      unfold hinterlandref14_ValidateModels.l1
      repeat' first
      | (with_reducible first | exact ih0 _ _ _ _ | exact ih1 _ _ _ _ | exact ih2 _ _ _ _ _ _ _ _ _ _ _ _ _ _ _ _ _ _ _ _ _ | exact hinterlandref14_right.mono _ _ _ _ _ _ _ _ _ _ _ _ _ _ _ | exact LeO.refl _ | exact LeO.none _ | refine LeO.ite ?_ ?_ | refine LeO.bind ?_ (fun _ => ?_))
      | exact ih0 _ _ _ _
      | exact ih1 _ _ _ _
      | exact ih2 _ _ _ _ _ _ _ _ _ _ _ _ _ _ _ _ _ _ _ _ _
      | exact hinterlandref14_right.mono _ _ _ _ _ _ _ _ _ _ _ _ _ _ _
      | exact LeO.none _
      | refine LeO.ite ?_ ?_
      | refine LeO.bind ?_ (fun _ => ?_)
    · intro y0 y1 y2 y3 y4 y5 y6 y7 y8 y9 y10 y11 y12 y13 y14 y15 y16 y17 y18 y19 y20
      unfold hinterlandref14_ValidateModels.l2
      repeat' first
      | (with_reducible first | exact ih0 _ _ _ _ | exact ih1 _ _ _ _ | exact ih2 _ _ _ _ _ _ _ _ _ _ _ _ _ _ _ _ _ _ _ _ _ | exact hinterlandref14_right.mono _ _ _ _ _ _ _ _ _ _ _ _ _ _ _ | exact LeO.refl _ | exact LeO.none _ | refine LeO.ite ?_ ?_ | refine LeO.bind ?_ (fun _ => ?_))
      | exact ih0 _ _ _ _
      | exact ih1 _ _ _ _
      | exact ih2 _ _ _ _ _ _ _ _ _ _ _ _ _ _ _ _ _ _ _ _ _
      | exact hinterlandref14_right.mono _ _ _ _ _ _ _ _ _ _ _ _ _ _ _
      | exact LeO.none _
      | refine LeO.ite ?_ ?_
      | refine LeO.bind ?_ (fun _ => ?_)
theorem hinterlandref14_ValidateModels.mono : ∀ a0 k, LeO (hinterlandref14_ValidateModels.f k a0) (hinterlandref14_ValidateModels.f (k + 1) a0) := by
  intro a0 k
  obtain ⟨ih0, ih1, ih2⟩ := hinterlandref14_ValidateModels.mono_l k
  unfold hinterlandref14_ValidateModels.f
  repeat' first
      | (with_reducible first | exact ih0 _ _ _ _ | exact ih1 _ _ _ _ | exact ih2 _ _ _ _ _ _ _ _ _ _ _ _ _ _ _ _ _ _ _ _ _ | exact hinterlandref14_right.mono _ _ _ _ _ _ _ _ _ _ _ _ _ _ _ | exact LeO.refl _ | exact LeO.none _ | refine LeO.ite ?_ ?_ | refine LeO.bind ?_ (fun _ => ?_))
      | exact ih0 _ _ _ _
      | exact ih1 _ _ _ _
      | exact ih2 _ _ _ _ _ _ _ _ _ _ _ _ _ _ _ _ _ _ _ _ _
      | exact hinterlandref14_right.mono _ _ _ _ _ _ _ _ _ _ _ _ _ _ _
      | exact LeO.none _
      | refine LeO.ite ?_ ?_
      | refine LeO.bind ?_ (fun _ => ?_)
set_option maxHeartbeats 8000000 in
set_option maxRecDepth 100000 in
theorem hinterlandref14_ValidateModels.calls (k : Nat) (A0 : Option Addr) (c0 : Nat) (l0 : List (S54)) (r : Int) (w : World) (hr0 : Kd.C k54 w A0 l0.length l0) (hc0 : l0.length ≤ c0) (h : hinterlandref14_ValidateModels.f k l0 = some r) :
    Calls Try.prog 18 #[.slice A0 l0.length c0] w fun e w' => e = .returned (.int .i64 r) ∧ Below w.heap.size w w' := by
 have hu54 := Try.underlying54
 have HR0 := Aside0.mk hr0
 have HC0 := Aside0.mk hc0
 clear hr0 hc0
 have HB := Aside0.mk (Below.refl w.heap.size w)
 have H : (if (l0.length : Int) > 40 then (some 4) else (hinterlandref14_ValidateModels.l0 k l0 l0 (l0.length : Int) 0)) = some r := h
 clear h
 by_cases c2 : (l0.length : Int) > 40
 ·rw [if_pos c2] at H
  have c2b0 : decide (40 < (l0.length : Int)) = true := decide_eq_true c2
  have c2b1 : decide (40 < l0.length) = true := decide_eq_true (by omega)
  clear c2
  obtain rfl := Option.some.inj H
  go_enter Try.func18, Try.ntmps18
  go_wp2
  go_ret
  exact ⟨tE_, dL_ HB⟩
 ·rw [if_neg c2] at H
  have c2b0 : decide (40 < (l0.length : Int)) = false := decide_eq_false c2
  have c2b1 : decide (40 < l0.length) = false := decide_eq_false (by omega)
  clear c2
  have H' := Aside0.mk H
  clear H
  go_enter Try.func18, Try.ntmps18
  go_wp2
  go_loopg [14] k (fun kq v14 w' => ∃ (x14_1 : Int), v14 = .int .i64 x14_1 ∧ Aside0 (hinterlandref14_ValidateModels.l0 kq l0 l0 (l0.length : Int) x14_1 = some r) ∧ Aside0 (kq ≤ k) ∧ Aside0 (Below w.heap.size w w'))
  case atStart => exact ⟨(0), tS_, H', ⟨Nat.le_refl _⟩, ⟨dL_ HB⟩⟩
  case round =>
   clear H'
   try clear c2
   try clear c2b0
   try clear c2b1
   obtain ⟨x14_1, rfl, HA, HK1, HB⟩ := hrel
   cases gk with
   | zero => exact absurd HA.out (by simp [hinterlandref14_ValidateModels.l0])
   | succ k1 =>
    have H := HA.out
    clear HA
    simp only [hinterlandref14_ValidateModels.l0] at H
    by_cases c3 : x14_1 < (l0.length : Int)
    ·rw [if_pos c3] at H
     have c3b0 : decide (x14_1 < (l0.length : Int)) = true := decide_eq_true c3
     clear c3
     by_cases c4 : 0 ≤ x14_1
     ·rw [if_pos c4] at H
      have c4b0 : decide (0 ≤ x14_1) = true := decide_eq_true c4
      clear c4
      by_cases c5 : x14_1 < (l0.length : Int)
      ·rw [if_pos c5] at H
       have c5b0 : decide (x14_1 < (l0.length : Int)) = true := decide_eq_true c5
       clear c5
       replace H := Option.bind_eq_some_iff.mp H
       obtain ⟨t234, A60, H⟩ := H
       replace H : (if t234 = true then (hinterlandref14_ValidateModels.l0 k1 l0 l0 (l0.length : Int) (wrap64 (x14_1 + 1))) else (some 1)) = some r := H
       have A6 := Aside0.mk A60
       clear A60
       by_cases c7 : t234 = true
       ·subst c7
        have H1 : (hinterlandref14_ValidateModels.l0 k1 l0 l0 (l0.length : Int) (wrap64 (x14_1 + 1))) = some r := by rw [if_pos rfl] at H; exact H
        clear H
        have H := H1
        clear H1
        have H' := Aside0.mk H
        clear H
        have p232 : 0 ≤ (x14_1 : Int) := of_decide_eq_true tW_
        have q232 : x14_1 < (l0.length : Int) := of_decide_eq_true tW_
        obtain ⟨ad232, e232, hx232_0, hx232_1, hx232_2, hx232_3, hx232_4, hx232_5, hx232_6, hx232_7, hx232_8, hx232_9, hx232_10, hx232_11, hx232_12, hx232_13⟩ := at_T54 HR0.out x14_1 p232 q232
        cases e232
        replace hx232_0 := bc_ HB hx232_0
        replace hx232_1 := bc_ HB hx232_1
        replace hx232_2 := bc_ HB hx232_2
        replace hx232_3 := bc_ HB hx232_3
        replace hx232_4 := bc_ HB hx232_4
        replace hx232_5 := bc_ HB hx232_5
        replace hx232_6 := bc_ HB hx232_6
        replace hx232_7 := bc_ HB hx232_7
        replace hx232_8 := bc_ HB hx232_8
        replace hx232_9 := bc_ HB hx232_9
        replace hx232_10 := bc_ HB hx232_10
        replace hx232_11 := bc_ HB hx232_11
        replace hx232_12 := bc_ HB hx232_12
        replace hx232_13 := bc_ HB hx232_13
        replace p232 := eq_true p232
        replace q232 := eq_true q232
        go_wp2_with (first | ((with_reducible refine gate_dst (N := 4) rfl ?_); refine box_event ?hg (N := 4) ?hd (cs := #[.string (⟨#[]⟩ : ByteArray), .int .i64 0, .int .i64 0, .int .i64 0, .int .i64 0, .int .i64 0, .int .i64 0, .int .i64 0, .int .i64 0, .int .i64 0, .int .i64 0, .int .i64 0, .int .i64 0, .bool false]) (t := 54) ?hr ?_; (case hd => rfl); (case hg => rfl); (case hr => first | (go_simp; done) | (go_simp; rfl)); intro gb233 hg w8 hbox hb; have BK233 := Aside0.mk (hbox); have GW233 := Aside0.mk ((dS_ hg (dL_ HB) : w.heap.size ≤ gb233)); have GE233 := Aside0.mk ((dS_ hg (dL_ HB) : w.heap.size ≤ gb233)); replace HB := Aside0.mk (below_step (dL_ HB) hb); clear hb hbox hg; obtain ⟨hcz9_0, hcz9_1, hcz9_2, hcz9_3, hcz9_4, hcz9_5, hcz9_6, hcz9_7, hcz9_8, hcz9_9, hcz9_10, hcz9_11, hcz9_12, hcz9_13, hfz9_0, hfz9_1, hfz9_2, hfz9_3, hfz9_4, hfz9_5, hfz9_6, hfz9_7, hfz9_8, hfz9_9, hfz9_10, hfz9_11, hfz9_12, hfz9_13⟩ := cs14_ BK233.out) | ((with_reducible refine gate_callee (f := 38) rfl ?_); refine goesL_ (some 19) rfl rfl Try.func38 (by kernel_rfl) rfl #[.agg #[.string ((rd_T54 l0 x14_1).f0), .int .i64 ((rd_T54 l0 x14_1).f1), .int .i64 ((rd_T54 l0 x14_1).f2), .int .i64 ((rd_T54 l0 x14_1).f3), .int .i64 ((rd_T54 l0 x14_1).f4), .int .i64 ((rd_T54 l0 x14_1).f5), .int .i64 ((rd_T54 l0 x14_1).f6), .int .i64 ((rd_T54 l0 x14_1).f7), .int .i64 ((rd_T54 l0 x14_1).f8), .int .i64 ((rd_T54 l0 x14_1).f9), .int .i64 ((rd_T54 l0 x14_1).f10), .int .i64 ((rd_T54 l0 x14_1).f11), .int .i64 ((rd_T54 l0 x14_1).f12), .bool ((rd_T54 l0 x14_1).f13)]] rfl tA_ ?_; (with_reducible refine (hinterlandref14_right.calls k1 ((rd_T54 l0 x14_1).f0) ((rd_T54 l0 x14_1).f1) ((rd_T54 l0 x14_1).f2) ((rd_T54 l0 x14_1).f3) ((rd_T54 l0 x14_1).f4) ((rd_T54 l0 x14_1).f5) ((rd_T54 l0 x14_1).f6) ((rd_T54 l0 x14_1).f7) ((rd_T54 l0 x14_1).f8) ((rd_T54 l0 x14_1).f9) ((rd_T54 l0 x14_1).f10) ((rd_T54 l0 x14_1).f11) ((rd_T54 l0 x14_1).f12) ((rd_T54 l0 x14_1).f13) true _ A6.out).mono ?_); rintro e w10 ⟨rfl, hb⟩; refine ⟨_, rfl, ?_⟩; replace BK233 := Aside0.mk (blk_below (g := gb233) (o := .cells #[.string ((rd_T54 l0 x14_1).f0), .int .i64 ((rd_T54 l0 x14_1).f1), .int .i64 ((rd_T54 l0 x14_1).f2), .int .i64 ((rd_T54 l0 x14_1).f3), .int .i64 ((rd_T54 l0 x14_1).f4), .int .i64 ((rd_T54 l0 x14_1).f5), .int .i64 ((rd_T54 l0 x14_1).f6), .int .i64 ((rd_T54 l0 x14_1).f7), .int .i64 ((rd_T54 l0 x14_1).f8), .int .i64 ((rd_T54 l0 x14_1).f9), .int .i64 ((rd_T54 l0 x14_1).f10), .int .i64 ((rd_T54 l0 x14_1).f11), .int .i64 ((rd_T54 l0 x14_1).f12), .bool ((rd_T54 l0 x14_1).f13)] 54 (0, 0)) (by (with_reducible repeat (first | refine blk_drewN ?_ _ | refine blk_drew ?_ | refine blk_alloc ?_ _)); refine blk_put (cs := #[.string ((rd_T54 l0 x14_1).f0), .int .i64 ((rd_T54 l0 x14_1).f1), .int .i64 ((rd_T54 l0 x14_1).f2), .int .i64 ((rd_T54 l0 x14_1).f3), .int .i64 ((rd_T54 l0 x14_1).f4), .int .i64 ((rd_T54 l0 x14_1).f5), .int .i64 ((rd_T54 l0 x14_1).f6), .int .i64 ((rd_T54 l0 x14_1).f7), .int .i64 ((rd_T54 l0 x14_1).f8), .int .i64 ((rd_T54 l0 x14_1).f9), .int .i64 ((rd_T54 l0 x14_1).f10), .int .i64 ((rd_T54 l0 x14_1).f11), .int .i64 ((rd_T54 l0 x14_1).f12), .bool false]) ?_ 13 _ rfl; (with_reducible repeat (first | refine blk_drewN ?_ _ | refine blk_drew ?_ | refine blk_alloc ?_ _)); refine blk_put (cs := #[.string ((rd_T54 l0 x14_1).f0), .int .i64 ((rd_T54 l0 x14_1).f1), .int .i64 ((rd_T54 l0 x14_1).f2), .int .i64 ((rd_T54 l0 x14_1).f3), .int .i64 ((rd_T54 l0 x14_1).f4), .int .i64 ((rd_T54 l0 x14_1).f5), .int .i64 ((rd_T54 l0 x14_1).f6), .int .i64 ((rd_T54 l0 x14_1).f7), .int .i64 ((rd_T54 l0 x14_1).f8), .int .i64 ((rd_T54 l0 x14_1).f9), .int .i64 ((rd_T54 l0 x14_1).f10), .int .i64 ((rd_T54 l0 x14_1).f11), .int .i64 0, .bool false]) ?_ 12 _ rfl; (with_reducible repeat (first | refine blk_drewN ?_ _ | refine blk_drew ?_ | refine blk_alloc ?_ _)); refine blk_put (cs := #[.string ((rd_T54 l0 x14_1).f0), .int .i64 ((rd_T54 l0 x14_1).f1), .int .i64 ((rd_T54 l0 x14_1).f2), .int .i64 ((rd_T54 l0 x14_1).f3), .int .i64 ((rd_T54 l0 x14_1).f4), .int .i64 ((rd_T54 l0 x14_1).f5), .int .i64 ((rd_T54 l0 x14_1).f6), .int .i64 ((rd_T54 l0 x14_1).f7), .int .i64 ((rd_T54 l0 x14_1).f8), .int .i64 ((rd_T54 l0 x14_1).f9), .int .i64 ((rd_T54 l0 x14_1).f10), .int .i64 0, .int .i64 0, .bool false]) ?_ 11 _ rfl; (with_reducible repeat (first | refine blk_drewN ?_ _ | refine blk_drew ?_ | refine blk_alloc ?_ _)); refine blk_put (cs := #[.string ((rd_T54 l0 x14_1).f0), .int .i64 ((rd_T54 l0 x14_1).f1), .int .i64 ((rd_T54 l0 x14_1).f2), .int .i64 ((rd_T54 l0 x14_1).f3), .int .i64 ((rd_T54 l0 x14_1).f4), .int .i64 ((rd_T54 l0 x14_1).f5), .int .i64 ((rd_T54 l0 x14_1).f6), .int .i64 ((rd_T54 l0 x14_1).f7), .int .i64 ((rd_T54 l0 x14_1).f8), .int .i64 ((rd_T54 l0 x14_1).f9), .int .i64 0, .int .i64 0, .int .i64 0, .bool false]) ?_ 10 _ rfl; (with_reducible repeat (first | refine blk_drewN ?_ _ | refine blk_drew ?_ | refine blk_alloc ?_ _)); refine blk_put (cs := #[.string ((rd_T54 l0 x14_1).f0), .int .i64 ((rd_T54 l0 x14_1).f1), .int .i64 ((rd_T54 l0 x14_1).f2), .int .i64 ((rd_T54 l0 x14_1).f3), .int .i64 ((rd_T54 l0 x14_1).f4), .int .i64 ((rd_T54 l0 x14_1).f5), .int .i64 ((rd_T54 l0 x14_1).f6), .int .i64 ((rd_T54 l0 x14_1).f7), .int .i64 ((rd_T54 l0 x14_1).f8), .int .i64 0, .int .i64 0, .int .i64 0, .int .i64 0, .bool false]) ?_ 9 _ rfl; (with_reducible repeat (first | refine blk_drewN ?_ _ | refine blk_drew ?_ | refine blk_alloc ?_ _)); refine blk_put (cs := #[.string ((rd_T54 l0 x14_1).f0), .int .i64 ((rd_T54 l0 x14_1).f1), .int .i64 ((rd_T54 l0 x14_1).f2), .int .i64 ((rd_T54 l0 x14_1).f3), .int .i64 ((rd_T54 l0 x14_1).f4), .int .i64 ((rd_T54 l0 x14_1).f5), .int .i64 ((rd_T54 l0 x14_1).f6), .int .i64 ((rd_T54 l0 x14_1).f7), .int .i64 0, .int .i64 0, .int .i64 0, .int .i64 0, .int .i64 0, .bool false]) ?_ 8 _ rfl; (with_reducible repeat (first | refine blk_drewN ?_ _ | refine blk_drew ?_ | refine blk_alloc ?_ _)); refine blk_put (cs := #[.string ((rd_T54 l0 x14_1).f0), .int .i64 ((rd_T54 l0 x14_1).f1), .int .i64 ((rd_T54 l0 x14_1).f2), .int .i64 ((rd_T54 l0 x14_1).f3), .int .i64 ((rd_T54 l0 x14_1).f4), .int .i64 ((rd_T54 l0 x14_1).f5), .int .i64 ((rd_T54 l0 x14_1).f6), .int .i64 0, .int .i64 0, .int .i64 0, .int .i64 0, .int .i64 0, .int .i64 0, .bool false]) ?_ 7 _ rfl; (with_reducible repeat (first | refine blk_drewN ?_ _ | refine blk_drew ?_ | refine blk_alloc ?_ _)); refine blk_put (cs := #[.string ((rd_T54 l0 x14_1).f0), .int .i64 ((rd_T54 l0 x14_1).f1), .int .i64 ((rd_T54 l0 x14_1).f2), .int .i64 ((rd_T54 l0 x14_1).f3), .int .i64 ((rd_T54 l0 x14_1).f4), .int .i64 ((rd_T54 l0 x14_1).f5), .int .i64 0, .int .i64 0, .int .i64 0, .int .i64 0, .int .i64 0, .int .i64 0, .int .i64 0, .bool false]) ?_ 6 _ rfl; (with_reducible repeat (first | refine blk_drewN ?_ _ | refine blk_drew ?_ | refine blk_alloc ?_ _)); refine blk_put (cs := #[.string ((rd_T54 l0 x14_1).f0), .int .i64 ((rd_T54 l0 x14_1).f1), .int .i64 ((rd_T54 l0 x14_1).f2), .int .i64 ((rd_T54 l0 x14_1).f3), .int .i64 ((rd_T54 l0 x14_1).f4), .int .i64 0, .int .i64 0, .int .i64 0, .int .i64 0, .int .i64 0, .int .i64 0, .int .i64 0, .int .i64 0, .bool false]) ?_ 5 _ rfl; (with_reducible repeat (first | refine blk_drewN ?_ _ | refine blk_drew ?_ | refine blk_alloc ?_ _)); refine blk_put (cs := #[.string ((rd_T54 l0 x14_1).f0), .int .i64 ((rd_T54 l0 x14_1).f1), .int .i64 ((rd_T54 l0 x14_1).f2), .int .i64 ((rd_T54 l0 x14_1).f3), .int .i64 0, .int .i64 0, .int .i64 0, .int .i64 0, .int .i64 0, .int .i64 0, .int .i64 0, .int .i64 0, .int .i64 0, .bool false]) ?_ 4 _ rfl; (with_reducible repeat (first | refine blk_drewN ?_ _ | refine blk_drew ?_ | refine blk_alloc ?_ _)); refine blk_put (cs := #[.string ((rd_T54 l0 x14_1).f0), .int .i64 ((rd_T54 l0 x14_1).f1), .int .i64 ((rd_T54 l0 x14_1).f2), .int .i64 0, .int .i64 0, .int .i64 0, .int .i64 0, .int .i64 0, .int .i64 0, .int .i64 0, .int .i64 0, .int .i64 0, .int .i64 0, .bool false]) ?_ 3 _ rfl; (with_reducible repeat (first | refine blk_drewN ?_ _ | refine blk_drew ?_ | refine blk_alloc ?_ _)); refine blk_put (cs := #[.string ((rd_T54 l0 x14_1).f0), .int .i64 ((rd_T54 l0 x14_1).f1), .int .i64 0, .int .i64 0, .int .i64 0, .int .i64 0, .int .i64 0, .int .i64 0, .int .i64 0, .int .i64 0, .int .i64 0, .int .i64 0, .int .i64 0, .bool false]) ?_ 2 _ rfl; (with_reducible repeat (first | refine blk_drewN ?_ _ | refine blk_drew ?_ | refine blk_alloc ?_ _)); refine blk_put (cs := #[.string ((rd_T54 l0 x14_1).f0), .int .i64 0, .int .i64 0, .int .i64 0, .int .i64 0, .int .i64 0, .int .i64 0, .int .i64 0, .int .i64 0, .int .i64 0, .int .i64 0, .int .i64 0, .int .i64 0, .bool false]) ?_ 1 _ rfl; (with_reducible repeat (first | refine blk_drewN ?_ _ | refine blk_drew ?_ | refine blk_alloc ?_ _)); refine blk_put (cs := #[.string (⟨#[]⟩ : ByteArray), .int .i64 0, .int .i64 0, .int .i64 0, .int .i64 0, .int .i64 0, .int .i64 0, .int .i64 0, .int .i64 0, .int .i64 0, .int .i64 0, .int .i64 0, .int .i64 0, .bool false]) ?_ 0 _ rfl; (with_reducible repeat (first | refine blk_drewN ?_ _ | refine blk_drew ?_ | refine blk_alloc ?_ _)); exact BK233.out) hb); replace HB := Aside0.mk (below_step (dL1_ HB GE233) hb)))
        go_roundg k1
        case measure => have := HK1.out; omega
        case rel => exact ⟨(wrap64 (x14_1 + 1)), tS_, H', ⟨by have := HK1.out; omega⟩, ⟨dL1_ HB GE233⟩⟩
       ·replace c7 := Bool.eq_false_iff.mpr c7
        subst c7
        have H1 : (some 1) = some r := by rw [if_neg (show ¬ (false = true) by decide)] at H; exact H
        clear H
        have H := H1
        clear H1
        obtain rfl := Option.some.inj H
        have p232 : 0 ≤ (x14_1 : Int) := of_decide_eq_true tW_
        have q232 : x14_1 < (l0.length : Int) := of_decide_eq_true tW_
        obtain ⟨ad232, e232, hx232_0, hx232_1, hx232_2, hx232_3, hx232_4, hx232_5, hx232_6, hx232_7, hx232_8, hx232_9, hx232_10, hx232_11, hx232_12, hx232_13⟩ := at_T54 HR0.out x14_1 p232 q232
        cases e232
        replace hx232_0 := bc_ HB hx232_0
        replace hx232_1 := bc_ HB hx232_1
        replace hx232_2 := bc_ HB hx232_2
        replace hx232_3 := bc_ HB hx232_3
        replace hx232_4 := bc_ HB hx232_4
        replace hx232_5 := bc_ HB hx232_5
        replace hx232_6 := bc_ HB hx232_6
        replace hx232_7 := bc_ HB hx232_7
        replace hx232_8 := bc_ HB hx232_8
        replace hx232_9 := bc_ HB hx232_9
        replace hx232_10 := bc_ HB hx232_10
        replace hx232_11 := bc_ HB hx232_11
        replace hx232_12 := bc_ HB hx232_12
        replace hx232_13 := bc_ HB hx232_13
        replace p232 := eq_true p232
        replace q232 := eq_true q232
        go_wp2_with (first | ((with_reducible refine gate_dst (N := 4) rfl ?_); refine box_event ?hg (N := 4) ?hd (cs := #[.string (⟨#[]⟩ : ByteArray), .int .i64 0, .int .i64 0, .int .i64 0, .int .i64 0, .int .i64 0, .int .i64 0, .int .i64 0, .int .i64 0, .int .i64 0, .int .i64 0, .int .i64 0, .int .i64 0, .bool false]) (t := 54) ?hr ?_; (case hd => rfl); (case hg => rfl); (case hr => first | (go_simp; done) | (go_simp; rfl)); intro gb233 hg w11 hbox hb; have BK233 := Aside0.mk (hbox); have GW233 := Aside0.mk ((dS_ hg (dL_ HB) : w.heap.size ≤ gb233)); have GE233 := Aside0.mk ((dS_ hg (dL_ HB) : w.heap.size ≤ gb233)); replace HB := Aside0.mk (below_step (dL_ HB) hb); clear hb hbox hg; obtain ⟨hcz12_0, hcz12_1, hcz12_2, hcz12_3, hcz12_4, hcz12_5, hcz12_6, hcz12_7, hcz12_8, hcz12_9, hcz12_10, hcz12_11, hcz12_12, hcz12_13, hfz12_0, hfz12_1, hfz12_2, hfz12_3, hfz12_4, hfz12_5, hfz12_6, hfz12_7, hfz12_8, hfz12_9, hfz12_10, hfz12_11, hfz12_12, hfz12_13⟩ := cs14_ BK233.out) | ((with_reducible refine gate_callee (f := 38) rfl ?_); refine goesL_ (some 19) rfl rfl Try.func38 (by kernel_rfl) rfl #[.agg #[.string ((rd_T54 l0 x14_1).f0), .int .i64 ((rd_T54 l0 x14_1).f1), .int .i64 ((rd_T54 l0 x14_1).f2), .int .i64 ((rd_T54 l0 x14_1).f3), .int .i64 ((rd_T54 l0 x14_1).f4), .int .i64 ((rd_T54 l0 x14_1).f5), .int .i64 ((rd_T54 l0 x14_1).f6), .int .i64 ((rd_T54 l0 x14_1).f7), .int .i64 ((rd_T54 l0 x14_1).f8), .int .i64 ((rd_T54 l0 x14_1).f9), .int .i64 ((rd_T54 l0 x14_1).f10), .int .i64 ((rd_T54 l0 x14_1).f11), .int .i64 ((rd_T54 l0 x14_1).f12), .bool ((rd_T54 l0 x14_1).f13)]] rfl tA_ ?_; (with_reducible refine (hinterlandref14_right.calls k1 ((rd_T54 l0 x14_1).f0) ((rd_T54 l0 x14_1).f1) ((rd_T54 l0 x14_1).f2) ((rd_T54 l0 x14_1).f3) ((rd_T54 l0 x14_1).f4) ((rd_T54 l0 x14_1).f5) ((rd_T54 l0 x14_1).f6) ((rd_T54 l0 x14_1).f7) ((rd_T54 l0 x14_1).f8) ((rd_T54 l0 x14_1).f9) ((rd_T54 l0 x14_1).f10) ((rd_T54 l0 x14_1).f11) ((rd_T54 l0 x14_1).f12) ((rd_T54 l0 x14_1).f13) false _ A6.out).mono ?_); rintro e w13 ⟨rfl, hb⟩; refine ⟨_, rfl, ?_⟩; replace BK233 := Aside0.mk (blk_below (g := gb233) (o := .cells #[.string ((rd_T54 l0 x14_1).f0), .int .i64 ((rd_T54 l0 x14_1).f1), .int .i64 ((rd_T54 l0 x14_1).f2), .int .i64 ((rd_T54 l0 x14_1).f3), .int .i64 ((rd_T54 l0 x14_1).f4), .int .i64 ((rd_T54 l0 x14_1).f5), .int .i64 ((rd_T54 l0 x14_1).f6), .int .i64 ((rd_T54 l0 x14_1).f7), .int .i64 ((rd_T54 l0 x14_1).f8), .int .i64 ((rd_T54 l0 x14_1).f9), .int .i64 ((rd_T54 l0 x14_1).f10), .int .i64 ((rd_T54 l0 x14_1).f11), .int .i64 ((rd_T54 l0 x14_1).f12), .bool ((rd_T54 l0 x14_1).f13)] 54 (0, 0)) (by (with_reducible repeat (first | refine blk_drewN ?_ _ | refine blk_drew ?_ | refine blk_alloc ?_ _)); refine blk_put (cs := #[.string ((rd_T54 l0 x14_1).f0), .int .i64 ((rd_T54 l0 x14_1).f1), .int .i64 ((rd_T54 l0 x14_1).f2), .int .i64 ((rd_T54 l0 x14_1).f3), .int .i64 ((rd_T54 l0 x14_1).f4), .int .i64 ((rd_T54 l0 x14_1).f5), .int .i64 ((rd_T54 l0 x14_1).f6), .int .i64 ((rd_T54 l0 x14_1).f7), .int .i64 ((rd_T54 l0 x14_1).f8), .int .i64 ((rd_T54 l0 x14_1).f9), .int .i64 ((rd_T54 l0 x14_1).f10), .int .i64 ((rd_T54 l0 x14_1).f11), .int .i64 ((rd_T54 l0 x14_1).f12), .bool false]) ?_ 13 _ rfl; (with_reducible repeat (first | refine blk_drewN ?_ _ | refine blk_drew ?_ | refine blk_alloc ?_ _)); refine blk_put (cs := #[.string ((rd_T54 l0 x14_1).f0), .int .i64 ((rd_T54 l0 x14_1).f1), .int .i64 ((rd_T54 l0 x14_1).f2), .int .i64 ((rd_T54 l0 x14_1).f3), .int .i64 ((rd_T54 l0 x14_1).f4), .int .i64 ((rd_T54 l0 x14_1).f5), .int .i64 ((rd_T54 l0 x14_1).f6), .int .i64 ((rd_T54 l0 x14_1).f7), .int .i64 ((rd_T54 l0 x14_1).f8), .int .i64 ((rd_T54 l0 x14_1).f9), .int .i64 ((rd_T54 l0 x14_1).f10), .int .i64 ((rd_T54 l0 x14_1).f11), .int .i64 0, .bool false]) ?_ 12 _ rfl; (with_reducible repeat (first | refine blk_drewN ?_ _ | refine blk_drew ?_ | refine blk_alloc ?_ _)); refine blk_put (cs := #[.string ((rd_T54 l0 x14_1).f0), .int .i64 ((rd_T54 l0 x14_1).f1), .int .i64 ((rd_T54 l0 x14_1).f2), .int .i64 ((rd_T54 l0 x14_1).f3), .int .i64 ((rd_T54 l0 x14_1).f4), .int .i64 ((rd_T54 l0 x14_1).f5), .int .i64 ((rd_T54 l0 x14_1).f6), .int .i64 ((rd_T54 l0 x14_1).f7), .int .i64 ((rd_T54 l0 x14_1).f8), .int .i64 ((rd_T54 l0 x14_1).f9), .int .i64 ((rd_T54 l0 x14_1).f10), .int .i64 0, .int .i64 0, .bool false]) ?_ 11 _ rfl; (with_reducible repeat (first | refine blk_drewN ?_ _ | refine blk_drew ?_ | refine blk_alloc ?_ _)); refine blk_put (cs := #[.string ((rd_T54 l0 x14_1).f0), .int .i64 ((rd_T54 l0 x14_1).f1), .int .i64 ((rd_T54 l0 x14_1).f2), .int .i64 ((rd_T54 l0 x14_1).f3), .int .i64 ((rd_T54 l0 x14_1).f4), .int .i64 ((rd_T54 l0 x14_1).f5), .int .i64 ((rd_T54 l0 x14_1).f6), .int .i64 ((rd_T54 l0 x14_1).f7), .int .i64 ((rd_T54 l0 x14_1).f8), .int .i64 ((rd_T54 l0 x14_1).f9), .int .i64 0, .int .i64 0, .int .i64 0, .bool false]) ?_ 10 _ rfl; (with_reducible repeat (first | refine blk_drewN ?_ _ | refine blk_drew ?_ | refine blk_alloc ?_ _)); refine blk_put (cs := #[.string ((rd_T54 l0 x14_1).f0), .int .i64 ((rd_T54 l0 x14_1).f1), .int .i64 ((rd_T54 l0 x14_1).f2), .int .i64 ((rd_T54 l0 x14_1).f3), .int .i64 ((rd_T54 l0 x14_1).f4), .int .i64 ((rd_T54 l0 x14_1).f5), .int .i64 ((rd_T54 l0 x14_1).f6), .int .i64 ((rd_T54 l0 x14_1).f7), .int .i64 ((rd_T54 l0 x14_1).f8), .int .i64 0, .int .i64 0, .int .i64 0, .int .i64 0, .bool false]) ?_ 9 _ rfl; (with_reducible repeat (first | refine blk_drewN ?_ _ | refine blk_drew ?_ | refine blk_alloc ?_ _)); refine blk_put (cs := #[.string ((rd_T54 l0 x14_1).f0), .int .i64 ((rd_T54 l0 x14_1).f1), .int .i64 ((rd_T54 l0 x14_1).f2), .int .i64 ((rd_T54 l0 x14_1).f3), .int .i64 ((rd_T54 l0 x14_1).f4), .int .i64 ((rd_T54 l0 x14_1).f5), .int .i64 ((rd_T54 l0 x14_1).f6), .int .i64 ((rd_T54 l0 x14_1).f7), .int .i64 0, .int .i64 0, .int .i64 0, .int .i64 0, .int .i64 0, .bool false]) ?_ 8 _ rfl; (with_reducible repeat (first | refine blk_drewN ?_ _ | refine blk_drew ?_ | refine blk_alloc ?_ _)); refine blk_put (cs := #[.string ((rd_T54 l0 x14_1).f0), .int .i64 ((rd_T54 l0 x14_1).f1), .int .i64 ((rd_T54 l0 x14_1).f2), .int .i64 ((rd_T54 l0 x14_1).f3), .int .i64 ((rd_T54 l0 x14_1).f4), .int .i64 ((rd_T54 l0 x14_1).f5), .int .i64 ((rd_T54 l0 x14_1).f6), .int .i64 0, .int .i64 0, .int .i64 0, .int .i64 0, .int .i64 0, .int .i64 0, .bool false]) ?_ 7 _ rfl; (with_reducible repeat (first | refine blk_drewN ?_ _ | refine blk_drew ?_ | refine blk_alloc ?_ _)); refine blk_put (cs := #[.string ((rd_T54 l0 x14_1).f0), .int .i64 ((rd_T54 l0 x14_1).f1), .int .i64 ((rd_T54 l0 x14_1).f2), .int .i64 ((rd_T54 l0 x14_1).f3), .int .i64 ((rd_T54 l0 x14_1).f4), .int .i64 ((rd_T54 l0 x14_1).f5), .int .i64 0, .int .i64 0, .int .i64 0, .int .i64 0, .int .i64 0, .int .i64 0, .int .i64 0, .bool false]) ?_ 6 _ rfl; (with_reducible repeat (first | refine blk_drewN ?_ _ | refine blk_drew ?_ | refine blk_alloc ?_ _)); refine blk_put (cs := #[.string ((rd_T54 l0 x14_1).f0), .int .i64 ((rd_T54 l0 x14_1).f1), .int .i64 ((rd_T54 l0 x14_1).f2), .int .i64 ((rd_T54 l0 x14_1).f3), .int .i64 ((rd_T54 l0 x14_1).f4), .int .i64 0, .int .i64 0, .int .i64 0, .int .i64 0, .int .i64 0, .int .i64 0, .int .i64 0, .int .i64 0, .bool false]) ?_ 5 _ rfl; (with_reducible repeat (first | refine blk_drewN ?_ _ | refine blk_drew ?_ | refine blk_alloc ?_ _)); refine blk_put (cs := #[.string ((rd_T54 l0 x14_1).f0), .int .i64 ((rd_T54 l0 x14_1).f1), .int .i64 ((rd_T54 l0 x14_1).f2), .int .i64 ((rd_T54 l0 x14_1).f3), .int .i64 0, .int .i64 0, .int .i64 0, .int .i64 0, .int .i64 0, .int .i64 0, .int .i64 0, .int .i64 0, .int .i64 0, .bool false]) ?_ 4 _ rfl; (with_reducible repeat (first | refine blk_drewN ?_ _ | refine blk_drew ?_ | refine blk_alloc ?_ _)); refine blk_put (cs := #[.string ((rd_T54 l0 x14_1).f0), .int .i64 ((rd_T54 l0 x14_1).f1), .int .i64 ((rd_T54 l0 x14_1).f2), .int .i64 0, .int .i64 0, .int .i64 0, .int .i64 0, .int .i64 0, .int .i64 0, .int .i64 0, .int .i64 0, .int .i64 0, .int .i64 0, .bool false]) ?_ 3 _ rfl; (with_reducible repeat (first | refine blk_drewN ?_ _ | refine blk_drew ?_ | refine blk_alloc ?_ _)); refine blk_put (cs := #[.string ((rd_T54 l0 x14_1).f0), .int .i64 ((rd_T54 l0 x14_1).f1), .int .i64 0, .int .i64 0, .int .i64 0, .int .i64 0, .int .i64 0, .int .i64 0, .int .i64 0, .int .i64 0, .int .i64 0, .int .i64 0, .int .i64 0, .bool false]) ?_ 2 _ rfl; (with_reducible repeat (first | refine blk_drewN ?_ _ | refine blk_drew ?_ | refine blk_alloc ?_ _)); refine blk_put (cs := #[.string ((rd_T54 l0 x14_1).f0), .int .i64 0, .int .i64 0, .int .i64 0, .int .i64 0, .int .i64 0, .int .i64 0, .int .i64 0, .int .i64 0, .int .i64 0, .int .i64 0, .int .i64 0, .int .i64 0, .bool false]) ?_ 1 _ rfl; (with_reducible repeat (first | refine blk_drewN ?_ _ | refine blk_drew ?_ | refine blk_alloc ?_ _)); refine blk_put (cs := #[.string (⟨#[]⟩ : ByteArray), .int .i64 0, .int .i64 0, .int .i64 0, .int .i64 0, .int .i64 0, .int .i64 0, .int .i64 0, .int .i64 0, .int .i64 0, .int .i64 0, .int .i64 0, .int .i64 0, .bool false]) ?_ 0 _ rfl; (with_reducible repeat (first | refine blk_drewN ?_ _ | refine blk_drew ?_ | refine blk_alloc ?_ _)); exact BK233.out) hb); replace HB := Aside0.mk (below_step (dL1_ HB GE233) hb)))
        go_ret
        exact ⟨tE_, dL1_ HB GE233⟩
      ·rw [if_neg c5] at H
       exact absurd H (by simp)
     ·rw [if_neg c4] at H
      exact absurd H (by simp)
    ·rw [if_neg c3] at H
     have c3b0 : decide (x14_1 < (l0.length : Int)) = false := decide_eq_false c3
     clear c3
     have H' := Aside0.mk H
     clear H
     go_wp2
     go_loopg [24] k1 (fun kq v24 w' => ∃ (x24_2 : Int), v24 = .int .i64 x24_2 ∧ Aside0 (hinterlandref14_ValidateModels.l1 kq l0 l0 (l0.length : Int) x24_2 = some r) ∧ Aside0 (kq ≤ k1) ∧ Aside0 (Below w.heap.size w w'))
     case atStart => exact ⟨(0), tS_, H', ⟨Nat.le_refl _⟩, ⟨dL_ HB⟩⟩
     case round =>
      clear H'
      try clear c2
      try clear c2b0
      try clear c2b1
      try clear c3
      try clear c3b0
      try clear c4
      try clear c5
      obtain ⟨x24_2, rfl, HA, HK2, HB⟩ := hrel
      cases gk with
      | zero => exact absurd HA.out (by simp [hinterlandref14_ValidateModels.l1])
      | succ k2 =>
       have H := HA.out
       clear HA
       simp only [hinterlandref14_ValidateModels.l1] at H
       by_cases c14 : x24_2 < (l0.length : Int)
       ·rw [if_pos c14] at H
        have c14b0 : decide (x24_2 < (l0.length : Int)) = true := decide_eq_true c14
        clear c14
        by_cases c15 : 0 ≤ x24_2
        ·rw [if_pos c15] at H
         have c15b0 : decide (0 ≤ x24_2) = true := decide_eq_true c15
         clear c15
         by_cases c16 : x24_2 < (l0.length : Int)
         ·rw [if_pos c16] at H
          have c16b0 : decide (x24_2 < (l0.length : Int)) = true := decide_eq_true c16
          clear c16
          have c17b0 := eq_true (of_decide_eq_true tW_ : 0 ≤ x24_2)
          by_cases c18 : x24_2 ≤ (l0.length : Int)
          ·rw [if_pos c18] at H
           have c18b0 := eq_true c18
           have c18b1 : decide (x24_2 ≤ (l0.length : Int)) = true := decide_eq_true c18
           clear c18
           obtain ⟨y237, hy237⟩ : ∃ y_ : List (S54), y_ = (l0.take (x24_2 : Int).toNat) := ⟨_, rfl⟩
           replace H : (hinterlandref14_ValidateModels.l2 k2 l0 l0 (l0.length : Int) x24_2 y237 (y237.length : Int) 0 ((rd_T54 l0 x24_2).f0) ((rd_T54 l0 x24_2).f1) ((rd_T54 l0 x24_2).f2) ((rd_T54 l0 x24_2).f3) ((rd_T54 l0 x24_2).f4) ((rd_T54 l0 x24_2).f5) ((rd_T54 l0 x24_2).f6) ((rd_T54 l0 x24_2).f7) ((rd_T54 l0 x24_2).f8) ((rd_T54 l0 x24_2).f9) ((rd_T54 l0 x24_2).f10) ((rd_T54 l0 x24_2).f11) ((rd_T54 l0 x24_2).f12) ((rd_T54 l0 x24_2).f13)) = some r := by first | (rw [hy237]; with_reducible exact H) | (have H2_ := (Option.bind_some _ _).symm.trans H; rw [hy237]; with_reducible exact H2_) | (have H2_ := (Option.bind_some _ _).symm.trans H; with_reducible exact H2_) | with_reducible exact H | (rw [hy237]; exact H) | exact H
           have Ny237 := Aside0.mk hy237
           clear hy237
           have H' := Aside0.mk H
           clear H
           have p235 : 0 ≤ (x24_2 : Int) := of_decide_eq_true tW_
           have q235 : x24_2 < (l0.length : Int) := of_decide_eq_true tW_
           obtain ⟨ad235, e235, hx235_0, hx235_1, hx235_2, hx235_3, hx235_4, hx235_5, hx235_6, hx235_7, hx235_8, hx235_9, hx235_10, hx235_11, hx235_12, hx235_13⟩ := at_T54 HR0.out x24_2 p235 q235
           cases e235
           replace hx235_0 := bc_ HB hx235_0
           replace hx235_1 := bc_ HB hx235_1
           replace hx235_2 := bc_ HB hx235_2
           replace hx235_3 := bc_ HB hx235_3
           replace hx235_4 := bc_ HB hx235_4
           replace hx235_5 := bc_ HB hx235_5
           replace hx235_6 := bc_ HB hx235_6
           replace hx235_7 := bc_ HB hx235_7
           replace hx235_8 := bc_ HB hx235_8
           replace hx235_9 := bc_ HB hx235_9
           replace hx235_10 := bc_ HB hx235_10
           replace hx235_11 := bc_ HB hx235_11
           replace hx235_12 := bc_ HB hx235_12
           replace hx235_13 := bc_ HB hx235_13
           replace p235 := eq_true p235
           replace q235 := eq_true q235
           go_wp2_with (first | ((with_reducible refine gate_dst (N := 6) rfl ?_); refine box_event ?hg (N := 6) ?hd (cs := #[.string (⟨#[]⟩ : ByteArray), .int .i64 0, .int .i64 0, .int .i64 0, .int .i64 0, .int .i64 0, .int .i64 0, .int .i64 0, .int .i64 0, .int .i64 0, .int .i64 0, .int .i64 0, .int .i64 0, .bool false]) (t := 54) ?hr ?_; (case hd => rfl); (case hg => rfl); (case hr => first | (go_simp; done) | (go_simp; rfl)); intro gb236 hg w19 hbox hb; have BK236 := Aside0.mk (hbox); have GW236 := Aside0.mk ((dS_ hg (dL_ HB) : w.heap.size ≤ gb236)); have GE236 := Aside0.mk ((dS_ hg (dL_ HB) : w.heap.size ≤ gb236)); replace HB := Aside0.mk (below_step (dL_ HB) hb); clear hb hbox hg; obtain ⟨hcz20_0, hcz20_1, hcz20_2, hcz20_3, hcz20_4, hcz20_5, hcz20_6, hcz20_7, hcz20_8, hcz20_9, hcz20_10, hcz20_11, hcz20_12, hcz20_13, hfz20_0, hfz20_1, hfz20_2, hfz20_3, hfz20_4, hfz20_5, hfz20_6, hfz20_7, hfz20_8, hfz20_9, hfz20_10, hfz20_11, hfz20_12, hfz20_13⟩ := cs14_ BK236.out) | ((with_reducible refine gate_store (t := 54) (p := 6) rfl ?_); refine store_event (t := 54) (p := 6) (v := ?vo_w21) (w1 := ((((((((((((((w19.setCell ⟨gb236, 0, none⟩ (.string ((rd_T54 l0 x24_2).f0))).setCell ⟨gb236, 1, none⟩ (.int .i64 ((rd_T54 l0 x24_2).f1))).setCell ⟨gb236, 2, none⟩ (.int .i64 ((rd_T54 l0 x24_2).f2))).setCell ⟨gb236, 3, none⟩ (.int .i64 ((rd_T54 l0 x24_2).f3))).setCell ⟨gb236, 4, none⟩ (.int .i64 ((rd_T54 l0 x24_2).f4))).setCell ⟨gb236, 5, none⟩ (.int .i64 ((rd_T54 l0 x24_2).f5))).setCell ⟨gb236, 6, none⟩ (.int .i64 ((rd_T54 l0 x24_2).f6))).setCell ⟨gb236, 7, none⟩ (.int .i64 ((rd_T54 l0 x24_2).f7))).setCell ⟨gb236, 8, none⟩ (.int .i64 ((rd_T54 l0 x24_2).f8))).setCell ⟨gb236, 9, none⟩ (.int .i64 ((rd_T54 l0 x24_2).f9))).setCell ⟨gb236, 10, none⟩ (.int .i64 ((rd_T54 l0 x24_2).f10))).setCell ⟨gb236, 11, none⟩ (.int .i64 ((rd_T54 l0 x24_2).f11))).setCell ⟨gb236, 12, none⟩ (.int .i64 ((rd_T54 l0 x24_2).f12))).setCell ⟨gb236, 13, none⟩ (.bool ((rd_T54 l0 x24_2).f13)))) ?hg ?ho ?hn ?hr ?_; (case ho => rfl); (case hg => rfl); (case hn => rfl); (case hr => first | (go_simp; done) | (go_simp; rfl)); intro w21 hw; have n0_ : Aside0 (w21.heap[gb236]? = some (.cells #[.string ((rd_T54 l0 x24_2).f0), .int .i64 ((rd_T54 l0 x24_2).f1), .int .i64 ((rd_T54 l0 x24_2).f2), .int .i64 ((rd_T54 l0 x24_2).f3), .int .i64 ((rd_T54 l0 x24_2).f4), .int .i64 ((rd_T54 l0 x24_2).f5), .int .i64 ((rd_T54 l0 x24_2).f6), .int .i64 ((rd_T54 l0 x24_2).f7), .int .i64 ((rd_T54 l0 x24_2).f8), .int .i64 ((rd_T54 l0 x24_2).f9), .int .i64 ((rd_T54 l0 x24_2).f10), .int .i64 ((rd_T54 l0 x24_2).f11), .int .i64 ((rd_T54 l0 x24_2).f12), .bool ((rd_T54 l0 x24_2).f13)] 54 (0, 0))) := ⟨(by rw [hw]; exact (by (with_reducible repeat (first | refine blk_drewN ?_ _ | refine blk_drew ?_ | refine blk_alloc ?_ _)); refine blk_put (cs := #[.string ((rd_T54 l0 x24_2).f0), .int .i64 ((rd_T54 l0 x24_2).f1), .int .i64 ((rd_T54 l0 x24_2).f2), .int .i64 ((rd_T54 l0 x24_2).f3), .int .i64 ((rd_T54 l0 x24_2).f4), .int .i64 ((rd_T54 l0 x24_2).f5), .int .i64 ((rd_T54 l0 x24_2).f6), .int .i64 ((rd_T54 l0 x24_2).f7), .int .i64 ((rd_T54 l0 x24_2).f8), .int .i64 ((rd_T54 l0 x24_2).f9), .int .i64 ((rd_T54 l0 x24_2).f10), .int .i64 ((rd_T54 l0 x24_2).f11), .int .i64 ((rd_T54 l0 x24_2).f12), .bool false]) ?_ 13 _ rfl; (with_reducible repeat (first | refine blk_drewN ?_ _ | refine blk_drew ?_ | refine blk_alloc ?_ _)); refine blk_put (cs := #[.string ((rd_T54 l0 x24_2).f0), .int .i64 ((rd_T54 l0 x24_2).f1), .int .i64 ((rd_T54 l0 x24_2).f2), .int .i64 ((rd_T54 l0 x24_2).f3), .int .i64 ((rd_T54 l0 x24_2).f4), .int .i64 ((rd_T54 l0 x24_2).f5), .int .i64 ((rd_T54 l0 x24_2).f6), .int .i64 ((rd_T54 l0 x24_2).f7), .int .i64 ((rd_T54 l0 x24_2).f8), .int .i64 ((rd_T54 l0 x24_2).f9), .int .i64 ((rd_T54 l0 x24_2).f10), .int .i64 ((rd_T54 l0 x24_2).f11), .int .i64 0, .bool false]) ?_ 12 _ rfl; (with_reducible repeat (first | refine blk_drewN ?_ _ | refine blk_drew ?_ | refine blk_alloc ?_ _)); refine blk_put (cs := #[.string ((rd_T54 l0 x24_2).f0), .int .i64 ((rd_T54 l0 x24_2).f1), .int .i64 ((rd_T54 l0 x24_2).f2), .int .i64 ((rd_T54 l0 x24_2).f3), .int .i64 ((rd_T54 l0 x24_2).f4), .int .i64 ((rd_T54 l0 x24_2).f5), .int .i64 ((rd_T54 l0 x24_2).f6), .int .i64 ((rd_T54 l0 x24_2).f7), .int .i64 ((rd_T54 l0 x24_2).f8), .int .i64 ((rd_T54 l0 x24_2).f9), .int .i64 ((rd_T54 l0 x24_2).f10), .int .i64 0, .int .i64 0, .bool false]) ?_ 11 _ rfl; (with_reducible repeat (first | refine blk_drewN ?_ _ | refine blk_drew ?_ | refine blk_alloc ?_ _)); refine blk_put (cs := #[.string ((rd_T54 l0 x24_2).f0), .int .i64 ((rd_T54 l0 x24_2).f1), .int .i64 ((rd_T54 l0 x24_2).f2), .int .i64 ((rd_T54 l0 x24_2).f3), .int .i64 ((rd_T54 l0 x24_2).f4), .int .i64 ((rd_T54 l0 x24_2).f5), .int .i64 ((rd_T54 l0 x24_2).f6), .int .i64 ((rd_T54 l0 x24_2).f7), .int .i64 ((rd_T54 l0 x24_2).f8), .int .i64 ((rd_T54 l0 x24_2).f9), .int .i64 0, .int .i64 0, .int .i64 0, .bool false]) ?_ 10 _ rfl; (with_reducible repeat (first | refine blk_drewN ?_ _ | refine blk_drew ?_ | refine blk_alloc ?_ _)); refine blk_put (cs := #[.string ((rd_T54 l0 x24_2).f0), .int .i64 ((rd_T54 l0 x24_2).f1), .int .i64 ((rd_T54 l0 x24_2).f2), .int .i64 ((rd_T54 l0 x24_2).f3), .int .i64 ((rd_T54 l0 x24_2).f4), .int .i64 ((rd_T54 l0 x24_2).f5), .int .i64 ((rd_T54 l0 x24_2).f6), .int .i64 ((rd_T54 l0 x24_2).f7), .int .i64 ((rd_T54 l0 x24_2).f8), .int .i64 0, .int .i64 0, .int .i64 0, .int .i64 0, .bool false]) ?_ 9 _ rfl; (with_reducible repeat (first | refine blk_drewN ?_ _ | refine blk_drew ?_ | refine blk_alloc ?_ _)); refine blk_put (cs := #[.string ((rd_T54 l0 x24_2).f0), .int .i64 ((rd_T54 l0 x24_2).f1), .int .i64 ((rd_T54 l0 x24_2).f2), .int .i64 ((rd_T54 l0 x24_2).f3), .int .i64 ((rd_T54 l0 x24_2).f4), .int .i64 ((rd_T54 l0 x24_2).f5), .int .i64 ((rd_T54 l0 x24_2).f6), .int .i64 ((rd_T54 l0 x24_2).f7), .int .i64 0, .int .i64 0, .int .i64 0, .int .i64 0, .int .i64 0, .bool false]) ?_ 8 _ rfl; (with_reducible repeat (first | refine blk_drewN ?_ _ | refine blk_drew ?_ | refine blk_alloc ?_ _)); refine blk_put (cs := #[.string ((rd_T54 l0 x24_2).f0), .int .i64 ((rd_T54 l0 x24_2).f1), .int .i64 ((rd_T54 l0 x24_2).f2), .int .i64 ((rd_T54 l0 x24_2).f3), .int .i64 ((rd_T54 l0 x24_2).f4), .int .i64 ((rd_T54 l0 x24_2).f5), .int .i64 ((rd_T54 l0 x24_2).f6), .int .i64 0, .int .i64 0, .int .i64 0, .int .i64 0, .int .i64 0, .int .i64 0, .bool false]) ?_ 7 _ rfl; (with_reducible repeat (first | refine blk_drewN ?_ _ | refine blk_drew ?_ | refine blk_alloc ?_ _)); refine blk_put (cs := #[.string ((rd_T54 l0 x24_2).f0), .int .i64 ((rd_T54 l0 x24_2).f1), .int .i64 ((rd_T54 l0 x24_2).f2), .int .i64 ((rd_T54 l0 x24_2).f3), .int .i64 ((rd_T54 l0 x24_2).f4), .int .i64 ((rd_T54 l0 x24_2).f5), .int .i64 0, .int .i64 0, .int .i64 0, .int .i64 0, .int .i64 0, .int .i64 0, .int .i64 0, .bool false]) ?_ 6 _ rfl; (with_reducible repeat (first | refine blk_drewN ?_ _ | refine blk_drew ?_ | refine blk_alloc ?_ _)); refine blk_put (cs := #[.string ((rd_T54 l0 x24_2).f0), .int .i64 ((rd_T54 l0 x24_2).f1), .int .i64 ((rd_T54 l0 x24_2).f2), .int .i64 ((rd_T54 l0 x24_2).f3), .int .i64 ((rd_T54 l0 x24_2).f4), .int .i64 0, .int .i64 0, .int .i64 0, .int .i64 0, .int .i64 0, .int .i64 0, .int .i64 0, .int .i64 0, .bool false]) ?_ 5 _ rfl; (with_reducible repeat (first | refine blk_drewN ?_ _ | refine blk_drew ?_ | refine blk_alloc ?_ _)); refine blk_put (cs := #[.string ((rd_T54 l0 x24_2).f0), .int .i64 ((rd_T54 l0 x24_2).f1), .int .i64 ((rd_T54 l0 x24_2).f2), .int .i64 ((rd_T54 l0 x24_2).f3), .int .i64 0, .int .i64 0, .int .i64 0, .int .i64 0, .int .i64 0, .int .i64 0, .int .i64 0, .int .i64 0, .int .i64 0, .bool false]) ?_ 4 _ rfl; (with_reducible repeat (first | refine blk_drewN ?_ _ | refine blk_drew ?_ | refine blk_alloc ?_ _)); refine blk_put (cs := #[.string ((rd_T54 l0 x24_2).f0), .int .i64 ((rd_T54 l0 x24_2).f1), .int .i64 ((rd_T54 l0 x24_2).f2), .int .i64 0, .int .i64 0, .int .i64 0, .int .i64 0, .int .i64 0, .int .i64 0, .int .i64 0, .int .i64 0, .int .i64 0, .int .i64 0, .bool false]) ?_ 3 _ rfl; (with_reducible repeat (first | refine blk_drewN ?_ _ | refine blk_drew ?_ | refine blk_alloc ?_ _)); refine blk_put (cs := #[.string ((rd_T54 l0 x24_2).f0), .int .i64 ((rd_T54 l0 x24_2).f1), .int .i64 0, .int .i64 0, .int .i64 0, .int .i64 0, .int .i64 0, .int .i64 0, .int .i64 0, .int .i64 0, .int .i64 0, .int .i64 0, .int .i64 0, .bool false]) ?_ 2 _ rfl; (with_reducible repeat (first | refine blk_drewN ?_ _ | refine blk_drew ?_ | refine blk_alloc ?_ _)); refine blk_put (cs := #[.string ((rd_T54 l0 x24_2).f0), .int .i64 0, .int .i64 0, .int .i64 0, .int .i64 0, .int .i64 0, .int .i64 0, .int .i64 0, .int .i64 0, .int .i64 0, .int .i64 0, .int .i64 0, .int .i64 0, .bool false]) ?_ 1 _ rfl; (with_reducible repeat (first | refine blk_drewN ?_ _ | refine blk_drew ?_ | refine blk_alloc ?_ _)); refine blk_put (cs := #[.string (⟨#[]⟩ : ByteArray), .int .i64 0, .int .i64 0, .int .i64 0, .int .i64 0, .int .i64 0, .int .i64 0, .int .i64 0, .int .i64 0, .int .i64 0, .int .i64 0, .int .i64 0, .int .i64 0, .bool false]) ?_ 0 _ rfl; (with_reducible repeat (first | refine blk_drewN ?_ _ | refine blk_drew ?_ | refine blk_alloc ?_ _)); exact BK236.out))⟩; have n1_ : Aside0 (Below w.heap.size w w21) := ⟨(by rw [hw]; exact (dL1_ HB GE236))⟩; clear hw; clear BK236; clear HB; have BK236 := n0_; have HB := n1_; clear n0_ n1_; have q22 : (x24_2 : Int) ≤ ((l0.length : Int) : Int) := of_decide_eq_true tW_; obtain ⟨i022, hi022, _, hsz22, _⟩ := info_parts info54; have hroom22 : l0.length ≤ c0 := HC0.out; have hC22 : Kd.C k54 _ (some ad235) l0.length l0 := HR0.out; have hcut22 := cut_to (P := Try.prog) 22 54 .i64 Try.underlying22 hi022 (some ad235) l0.length c0 x24_2 (of_decide_eq_true tW_) q22 hroom22; have hr22 := Kd.C_take (m := (x24_2 : Int).toNat) hC22 (by omega); have hy22 : y237.length = (x24_2 : Int).toNat := (by rw [Ny237.out, List.length_take]; omega); rw [← Ny237.out] at hr22; rw [← hy22] at hcut22; have HR240 := Aside0.mk hr22; have HC240 := Aside0.mk (show y237.length ≤ c0 from by omega); clear hr22 hC22 hroom22 hi022 hsz22; have KY22 := Aside0.mk hy22; clear hy22; replace q22 := eq_true q22))
           go_loopg [33] k2 (fun kq v33 w' => ∃ (x33_3 : Int), v33 = .int .i64 x33_3 ∧ Aside0 (hinterlandref14_ValidateModels.l2 kq l0 l0 (l0.length : Int) x24_2 y237 (y237.length : Int) x33_3 ((rd_T54 l0 x24_2).f0) ((rd_T54 l0 x24_2).f1) ((rd_T54 l0 x24_2).f2) ((rd_T54 l0 x24_2).f3) ((rd_T54 l0 x24_2).f4) ((rd_T54 l0 x24_2).f5) ((rd_T54 l0 x24_2).f6) ((rd_T54 l0 x24_2).f7) ((rd_T54 l0 x24_2).f8) ((rd_T54 l0 x24_2).f9) ((rd_T54 l0 x24_2).f10) ((rd_T54 l0 x24_2).f11) ((rd_T54 l0 x24_2).f12) ((rd_T54 l0 x24_2).f13) = some r) ∧ Aside0 (kq ≤ k2) ∧ Aside0 (w'.heap[gb236]? = some (.cells #[.string ((rd_T54 l0 x24_2).f0), .int .i64 ((rd_T54 l0 x24_2).f1), .int .i64 ((rd_T54 l0 x24_2).f2), .int .i64 ((rd_T54 l0 x24_2).f3), .int .i64 ((rd_T54 l0 x24_2).f4), .int .i64 ((rd_T54 l0 x24_2).f5), .int .i64 ((rd_T54 l0 x24_2).f6), .int .i64 ((rd_T54 l0 x24_2).f7), .int .i64 ((rd_T54 l0 x24_2).f8), .int .i64 ((rd_T54 l0 x24_2).f9), .int .i64 ((rd_T54 l0 x24_2).f10), .int .i64 ((rd_T54 l0 x24_2).f11), .int .i64 ((rd_T54 l0 x24_2).f12), .bool ((rd_T54 l0 x24_2).f13)] 54 (0, 0))) ∧ Aside0 (Below w.heap.size w w'))
           case atStart => exact ⟨(0), tS_, H', ⟨Nat.le_refl _⟩, ⟨dB_ BK236⟩, ⟨dL1_ HB GE236⟩⟩
           case round =>
            clear H'
            try clear c2
            try clear c2b0
            try clear c2b1
            try clear c3
            try clear c3b0
            try clear c4
            try clear c5
            try clear c14
            try clear c14b0
            try clear c15
            try clear c15b0
            try clear c16
            try clear c16b0
            try clear c17b0
            try clear c18
            try clear c18b0
            try clear c18b1
            try clear q22
            try clear hcz20_0
            try clear hcz20_1
            try clear hcz20_10
            try clear hcz20_11
            try clear hcz20_12
            try clear hcz20_13
            try clear hcz20_2
            try clear hcz20_3
            try clear hcz20_4
            try clear hcz20_5
            try clear hcz20_6
            try clear hcz20_7
            try clear hcz20_8
            try clear hcz20_9
            try clear hfz20_0
            try clear hfz20_1
            try clear hfz20_10
            try clear hfz20_11
            try clear hfz20_12
            try clear hfz20_13
            try clear hfz20_2
            try clear hfz20_3
            try clear hfz20_4
            try clear hfz20_5
            try clear hfz20_6
            try clear hfz20_7
            try clear hfz20_8
            try clear hfz20_9
            try clear hx235_0
            try clear hx235_1
            try clear hx235_10
            try clear hx235_11
            try clear hx235_12
            try clear hx235_13
            try clear hx235_2
            try clear hx235_3
            try clear hx235_4
            try clear hx235_5
            try clear hx235_6
            try clear hx235_7
            try clear hx235_8
            try clear hx235_9
            try clear p235
            try clear q22
            try clear q235
            obtain ⟨x33_3, rfl, HA, HK3, BK236, HB⟩ := hrel
            cases gk with
            | zero => exact absurd HA.out (by simp [hinterlandref14_ValidateModels.l2])
            | succ k3 =>
             have H := HA.out
             clear HA
             simp only [hinterlandref14_ValidateModels.l2] at H
             by_cases c23 : x33_3 < (y237.length : Int)
             ·rw [if_pos c23] at H
              have c23b0 : decide (x33_3 < (y237.length : Int)) = true := decide_eq_true c23
              clear c23
              by_cases c24 : 0 ≤ x33_3
              ·rw [if_pos c24] at H
               have c24b0 : decide (0 ≤ x33_3) = true := decide_eq_true c24
               clear c24
               by_cases c25 : x33_3 < (y237.length : Int)
               ·rw [if_pos c25] at H
                have c25b0 : decide (x33_3 < (y237.length : Int)) = true := decide_eq_true c25
                clear c25
                by_cases c26 : ((rd_T54 y237 x33_3).f0).toList = ((rd_T54 l0 x24_2).f0).toList
                ·rw [if_pos c26] at H
                 have c26b0 : (((rd_T54 y237 x33_3).f0).toList == ((rd_T54 l0 x24_2).f0).toList) = true := beq_iff_eq.mpr c26
                 have c26b1 : (((rd_T54 y237 x33_3).f0).toList != ((rd_T54 l0 x24_2).f0).toList) = false := bne_eq_false_iff_eq.mpr c26
                 clear c26
                 obtain rfl := Option.some.inj H
                 have p241 : 0 ≤ (x33_3 : Int) := of_decide_eq_true tW_
                 have q241 : x33_3 < (y237.length : Int) := of_decide_eq_true tW_
                 obtain ⟨ad241, e241, hx241_0, hx241_1, hx241_2, hx241_3, hx241_4, hx241_5, hx241_6, hx241_7, hx241_8, hx241_9, hx241_10, hx241_11, hx241_12, hx241_13⟩ := at_T54 HR240.out x33_3 p241 q241
                 obtain rfl : ad235 = ad241 := (by injection e241)
                 replace hx241_0 := bc_ HB hx241_0
                 replace hx241_1 := bc_ HB hx241_1
                 replace hx241_2 := bc_ HB hx241_2
                 replace hx241_3 := bc_ HB hx241_3
                 replace hx241_4 := bc_ HB hx241_4
                 replace hx241_5 := bc_ HB hx241_5
                 replace hx241_6 := bc_ HB hx241_6
                 replace hx241_7 := bc_ HB hx241_7
                 replace hx241_8 := bc_ HB hx241_8
                 replace hx241_9 := bc_ HB hx241_9
                 replace hx241_10 := bc_ HB hx241_10
                 replace hx241_11 := bc_ HB hx241_11
                 replace hx241_12 := bc_ HB hx241_12
                 replace hx241_13 := bc_ HB hx241_13
                 replace p241 := eq_true p241
                 replace q241 := eq_true q241
                 go_wp2_with (first | ((with_reducible refine gate_dst (N := 8) rfl ?_); refine box_event ?hg (N := 8) ?hd (cs := #[.string (⟨#[]⟩ : ByteArray), .int .i64 0, .int .i64 0, .int .i64 0, .int .i64 0, .int .i64 0, .int .i64 0, .int .i64 0, .int .i64 0, .int .i64 0, .int .i64 0, .int .i64 0, .int .i64 0, .bool false]) (t := 54) ?hr ?_; (case hd => rfl); (case hg => rfl); (case hr => first | (go_simp; done) | (go_simp; rfl)); intro gb242 hg w27 hbox hb; have BK242 := Aside0.mk (hbox); have GW242 := Aside0.mk ((dS_ hg (dL1_ HB GE236) : w.heap.size ≤ gb242)); have GE242 := Aside0.mk ((dS_ hg (dL1_ HB GE236) : w.heap.size ≤ gb242)); replace HB := Aside0.mk (below_step (dL1_ HB GE236) hb); have NB236_242 := Aside0.mk ((by rw [hg]; exact Nat.ne_of_lt (blk_lt (dB_ BK236)) : gb236 ≠ gb242)); have NB242_236 := Aside0.mk ((by rw [hg]; exact Nat.ne_of_gt (blk_lt (dB_ BK236)) : gb242 ≠ gb236)); replace BK236 := Aside0.mk (blk_below (g := gb236) (o := .cells #[.string ((rd_T54 l0 x24_2).f0), .int .i64 ((rd_T54 l0 x24_2).f1), .int .i64 ((rd_T54 l0 x24_2).f2), .int .i64 ((rd_T54 l0 x24_2).f3), .int .i64 ((rd_T54 l0 x24_2).f4), .int .i64 ((rd_T54 l0 x24_2).f5), .int .i64 ((rd_T54 l0 x24_2).f6), .int .i64 ((rd_T54 l0 x24_2).f7), .int .i64 ((rd_T54 l0 x24_2).f8), .int .i64 ((rd_T54 l0 x24_2).f9), .int .i64 ((rd_T54 l0 x24_2).f10), .int .i64 ((rd_T54 l0 x24_2).f11), .int .i64 ((rd_T54 l0 x24_2).f12), .bool ((rd_T54 l0 x24_2).f13)] 54 (0, 0)) (dB_ BK236) hb); clear hb hbox hg; have hnb28 := NB242_236.out; have hnc28 := NB236_242.out; obtain ⟨hcz29_0, hcz29_1, hcz29_2, hcz29_3, hcz29_4, hcz29_5, hcz29_6, hcz29_7, hcz29_8, hcz29_9, hcz29_10, hcz29_11, hcz29_12, hcz29_13, hfz29_0, hfz29_1, hfz29_2, hfz29_3, hfz29_4, hfz29_5, hfz29_6, hfz29_7, hfz29_8, hfz29_9, hfz29_10, hfz29_11, hfz29_12, hfz29_13⟩ := cs14_ BK242.out; obtain ⟨hcz30_0, hcz30_1, hcz30_2, hcz30_3, hcz30_4, hcz30_5, hcz30_6, hcz30_7, hcz30_8, hcz30_9, hcz30_10, hcz30_11, hcz30_12, hcz30_13, hfz30_0, hfz30_1, hfz30_2, hfz30_3, hfz30_4, hfz30_5, hfz30_6, hfz30_7, hfz30_8, hfz30_9, hfz30_10, hfz30_11, hfz30_12, hfz30_13⟩ := cs14_ BK236.out))
                 go_ret
                 exact ⟨tE_, dL2_ HB GE236 GE242⟩
                ·rw [if_neg c26] at H
                 have c26b0 : (((rd_T54 y237 x33_3).f0).toList == ((rd_T54 l0 x24_2).f0).toList) = false := beq_eq_false_iff_ne.mpr c26
                 have c26b1 : (((rd_T54 y237 x33_3).f0).toList != ((rd_T54 l0 x24_2).f0).toList) = true := bne_iff_ne.mpr c26
                 have H' := Aside0.mk H
                 clear H
                 have p241 : 0 ≤ (x33_3 : Int) := of_decide_eq_true tW_
                 have q241 : x33_3 < (y237.length : Int) := of_decide_eq_true tW_
                 obtain ⟨ad241, e241, hx241_0, hx241_1, hx241_2, hx241_3, hx241_4, hx241_5, hx241_6, hx241_7, hx241_8, hx241_9, hx241_10, hx241_11, hx241_12, hx241_13⟩ := at_T54 HR240.out x33_3 p241 q241
                 obtain rfl : ad235 = ad241 := (by injection e241)
                 replace hx241_0 := bc_ HB hx241_0
                 replace hx241_1 := bc_ HB hx241_1
                 replace hx241_2 := bc_ HB hx241_2
                 replace hx241_3 := bc_ HB hx241_3
                 replace hx241_4 := bc_ HB hx241_4
                 replace hx241_5 := bc_ HB hx241_5
                 replace hx241_6 := bc_ HB hx241_6
                 replace hx241_7 := bc_ HB hx241_7
                 replace hx241_8 := bc_ HB hx241_8
                 replace hx241_9 := bc_ HB hx241_9
                 replace hx241_10 := bc_ HB hx241_10
                 replace hx241_11 := bc_ HB hx241_11
                 replace hx241_12 := bc_ HB hx241_12
                 replace hx241_13 := bc_ HB hx241_13
                 replace p241 := eq_true p241
                 replace q241 := eq_true q241
                 go_wp2_with (first | ((with_reducible refine gate_dst (N := 8) rfl ?_); refine box_event ?hg (N := 8) ?hd (cs := #[.string (⟨#[]⟩ : ByteArray), .int .i64 0, .int .i64 0, .int .i64 0, .int .i64 0, .int .i64 0, .int .i64 0, .int .i64 0, .int .i64 0, .int .i64 0, .int .i64 0, .int .i64 0, .int .i64 0, .bool false]) (t := 54) ?hr ?_; (case hd => rfl); (case hg => rfl); (case hr => first | (go_simp; done) | (go_simp; rfl)); intro gb242 hg w31 hbox hb; have BK242 := Aside0.mk (hbox); have GW242 := Aside0.mk ((dS_ hg (dL1_ HB GE236) : w.heap.size ≤ gb242)); have GE242 := Aside0.mk ((dS_ hg (dL1_ HB GE236) : w.heap.size ≤ gb242)); replace HB := Aside0.mk (below_step (dL1_ HB GE236) hb); have NB236_242 := Aside0.mk ((by rw [hg]; exact Nat.ne_of_lt (blk_lt (dB_ BK236)) : gb236 ≠ gb242)); have NB242_236 := Aside0.mk ((by rw [hg]; exact Nat.ne_of_gt (blk_lt (dB_ BK236)) : gb242 ≠ gb236)); replace BK236 := Aside0.mk (blk_below (g := gb236) (o := .cells #[.string ((rd_T54 l0 x24_2).f0), .int .i64 ((rd_T54 l0 x24_2).f1), .int .i64 ((rd_T54 l0 x24_2).f2), .int .i64 ((rd_T54 l0 x24_2).f3), .int .i64 ((rd_T54 l0 x24_2).f4), .int .i64 ((rd_T54 l0 x24_2).f5), .int .i64 ((rd_T54 l0 x24_2).f6), .int .i64 ((rd_T54 l0 x24_2).f7), .int .i64 ((rd_T54 l0 x24_2).f8), .int .i64 ((rd_T54 l0 x24_2).f9), .int .i64 ((rd_T54 l0 x24_2).f10), .int .i64 ((rd_T54 l0 x24_2).f11), .int .i64 ((rd_T54 l0 x24_2).f12), .bool ((rd_T54 l0 x24_2).f13)] 54 (0, 0)) (dB_ BK236) hb); clear hb hbox hg; have hnb32 := NB242_236.out; have hnc32 := NB236_242.out; obtain ⟨hcz33_0, hcz33_1, hcz33_2, hcz33_3, hcz33_4, hcz33_5, hcz33_6, hcz33_7, hcz33_8, hcz33_9, hcz33_10, hcz33_11, hcz33_12, hcz33_13, hfz33_0, hfz33_1, hfz33_2, hfz33_3, hfz33_4, hfz33_5, hfz33_6, hfz33_7, hfz33_8, hfz33_9, hfz33_10, hfz33_11, hfz33_12, hfz33_13⟩ := cs14_ BK242.out; obtain ⟨hcz34_0, hcz34_1, hcz34_2, hcz34_3, hcz34_4, hcz34_5, hcz34_6, hcz34_7, hcz34_8, hcz34_9, hcz34_10, hcz34_11, hcz34_12, hcz34_13, hfz34_0, hfz34_1, hfz34_2, hfz34_3, hfz34_4, hfz34_5, hfz34_6, hfz34_7, hfz34_8, hfz34_9, hfz34_10, hfz34_11, hfz34_12, hfz34_13⟩ := cs14_ BK236.out))
                 go_roundg k3
                 case measure => have := HK1.out; have := HK2.out; have := HK3.out; omega
                 case rel => exact ⟨(wrap64 (x33_3 + 1)), tS_, H', ⟨by have := HK1.out; have := HK2.out; have := HK3.out; omega⟩, ⟨dF14_ BK236 NB236_242⟩, ⟨dL2_ HB GE236 GE242⟩⟩
               ·rw [if_neg c25] at H
                exact absurd H (by simp)
              ·rw [if_neg c24] at H
               exact absurd H (by simp)
             ·rw [if_neg c23] at H
              have c23b0 : decide (x33_3 < (y237.length : Int)) = false := decide_eq_false c23
              clear c23
              have H' := Aside0.mk H
              clear H
              go_wp2
              go_roundg k3
              case measure => have := HK1.out; have := HK2.out; have := HK3.out; omega
              case rel => exact ⟨(wrap64 (x24_2 + 1)), tS_, H', ⟨by have := HK1.out; have := HK2.out; have := HK3.out; omega⟩, ⟨dL1_ HB GE236⟩⟩
          ·rw [if_neg c18] at H
           exact absurd H (by simp)
         ·rw [if_neg c16] at H
          exact absurd H (by simp)
        ·rw [if_neg c15] at H
         exact absurd H (by simp)
       ·rw [if_neg c14] at H
        have c14b0 : decide (x24_2 < (l0.length : Int)) = false := decide_eq_false c14
        clear c14
        obtain rfl := Option.some.inj H
        go_wp2
        go_ret
        exact ⟨tE_, dL_ HB⟩

end Go.Proofs.Ytgnahbjpockdmaa.Q
namespace Go.Proofs.Ytgnahbjpockdmaa.Q
open Go.RowKit Go.Proofs.YtgnahbjpockdmaaPrs Go.Proofs.YtgnahbjpockdmaaOwn Go.Proofs.YtgnahbjpockdmaaW.PrintWords Go.Proofs.YtgnahbjpockdmaaW.PrintLast Go.Proofs.YtgnahbjpockdmaaW.PrintMore
attribute [local go_sem] max2_int min2_int max_two min_two max_three min_three max_four min_four   -- for this text's walks alone
set_option linter.unusedVariables false
set_option linter.unusedSimpArgs false

/-! ### hinterlandref14_coupled: function 40 -/
mutual
def hinterlandref14_coupled.j0 : Nat → List (S54) → List Int → Bool → Option (Int)
  | 0, _, _, _ => none
  | k + 1, x0, x1, x23 => if x23 = true then (some 1) else (hinterlandref14_coupled.l0 k x0 x1 x1 (x1.length : Int) 0)
def hinterlandref14_coupled.l0 : Nat → List (S54) → List Int → List Int → Int → Int → Option (Int)
  | 0, _, _, _, _, _ => none
  | k + 1, x0, x1, x24, x25, x26 => if x26 < x25 then (if 0 ≤ x26 then (if x26 < (x24.length : Int) then (if (rd x24 x26) < 0 then (hinterlandref14_coupled.j2 k x0 x1 x24 x25 x26 true) else (hinterlandref14_coupled.j2 k x0 x1 x24 x25 x26 (decide ((rd x24 x26) ≥ (x0.length : Int))))) else (none)) else (none)) else (if 0 < (x1.length : Int) then (if 0 ≤ (rd x1 0) then (if (rd x1 0) < (x0.length : Int) then (hinterlandref14_coupled.l1 k x0 x1 ((rd_T54 x0 (rd x1 0)).f1) x1 (x1.length : Int) 0) else (none)) else (none)) else (none))
def hinterlandref14_coupled.j2 : Nat → List (S54) → List Int → List Int → Int → Int → Bool → Option (Int)
  | 0, _, _, _, _, _, _ => none
  | k + 1, x0, x1, x24, x25, x26, x37 => if x37 = true then (some 2) else (hinterlandref14_coupled.l0 k x0 x1 x24 x25 (wrap64 (x26 + 1)))
def hinterlandref14_coupled.l1 : Nat → List (S54) → List Int → Int → List Int → Int → Int → Option (Int)
  | 0, _, _, _, _, _, _ => none
  | k + 1, x0, x1, x8, x46, x47, x48 => if x48 < x47 then (if 0 ≤ x48 then (if x48 < (x46.length : Int) then (if 0 ≤ (rd x46 x48) then (if (rd x46 x48) < (x0.length : Int) then (if ((rd_T54 x0 (rd x46 x48)).f1) = x8 then (hinterlandref14_coupled.l1 k x0 x1 x8 x46 x47 (wrap64 (x48 + 1))) else (some 8)) else (none)) else (none)) else (none)) else (none)) else (if x8 = 0 then (if 0 < (x1.length : Int) then (if 0 ≤ (rd x1 0) then (if (rd x1 0) < (x0.length : Int) then (if ((rd_T54 x0 (rd x1 0)).f3) = 0 then (hinterlandref14_coupled.j4 k true) else (hinterlandref14_coupled.j4 k false)) else (none)) else (none)) else (none)) else (hinterlandref14_coupled.j4 k (decide ((x1.length : Int) > 1))))
def hinterlandref14_coupled.j4 : Nat → Bool → Option (Int)
  | 0, _ => none
  | k + 1, x80 => if x80 = true then (some 8) else (some 0)
end
def hinterlandref14_coupled.f (k : Nat) (l0 : List (S54)) (l1 : List Int) : Option (Int) := (hinterlandref14_ValidateModels.f k l0).bind fun t248 => (if t248 = 0 then (if (l1.length : Int) < 1 then (hinterlandref14_coupled.j0 k l0 l1 true) else (hinterlandref14_coupled.j0 k l0 l1 (decide ((l1.length : Int) > 10)))) else (some t248))
theorem hinterlandref14_coupled.mono_l : ∀ k, (∀ y0 y1 y2, LeO (hinterlandref14_coupled.j0 k y0 y1 y2) (hinterlandref14_coupled.j0 (k + 1) y0 y1 y2)) ∧ (∀ y0 y1 y2 y3 y4, LeO (hinterlandref14_coupled.l0 k y0 y1 y2 y3 y4) (hinterlandref14_coupled.l0 (k + 1) y0 y1 y2 y3 y4)) ∧ (∀ y0 y1 y2 y3 y4 y5, LeO (hinterlandref14_coupled.j2 k y0 y1 y2 y3 y4 y5) (hinterlandref14_coupled.j2 (k + 1) y0 y1 y2 y3 y4 y5)) ∧ (∀ y0 y1 y2 y3 y4 y5, LeO (hinterlandref14_coupled.l1 k y0 y1 y2 y3 y4 y5) (hinterlandref14_coupled.l1 (k + 1) y0 y1 y2 y3 y4 y5)) ∧ (∀ y0, LeO (hinterlandref14_coupled.j4 k y0) (hinterlandref14_coupled.j4 (k + 1) y0))
  | 0 => ⟨fun _ _ _ r h => by simp [hinterlandref14_coupled.j0] at h, fun _ _ _ _ _ r h => by simp [hinterlandref14_coupled.l0] at h, fun _ _ _ _ _ _ r h => by simp [hinterlandref14_coupled.j2] at h, fun _ _ _ _ _ _ r h => by simp [hinterlandref14_coupled.l1] at h, fun _ r h => by simp [hinterlandref14_coupled.j4] at h⟩
  | k + 1 => by
    obtain ⟨ih0, ih1, ih2, ih3, ih4⟩ := hinterlandref14_coupled.mono_l k
    refine ⟨?_, ?_, ?_, ?_, ?_⟩
    · intro y0 y1 y2
      unfold hinterlandref14_coupled.j0
      repeat' first
      | (with_reducible first | exact ih0 _ _ _ | exact ih1 _ _ _ _ _ | exact ih2 _ _ _ _ _ _ | exact ih3 _ _ _ _ _ _ | exact ih4 _ | exact hinterlandref14_ValidateModels.mono _ _ | exact LeO.refl _ | exact LeO.none _ | refine LeO.ite ?_ ?_ | refine LeO.bind ?_ (fun _ => ?_))
      | exact ih0 _ _ _
      | exact ih1 _ _ _ _ _
      | exact ih2 _ _ _ _ _ _
      | exact ih3 _ _ _ _ _ _
      | exact ih4 _
      | exact hinterlandref14_ValidateModels.mono _ _
      | exact LeO.none _
      | refine LeO.ite ?_ ?_
      | refine LeO.bind ?_ (fun _ => ?_)
    · intro y0 y1 y2 y3 y4
      unfold hinterlandref14_coupled.l0
      repeat' first
      | (with_reducible first | exact ih0 _ _ _ | exact ih1 _ _ _ _ _ | exact ih2 _ _ _ _ _ _ | exact ih3 _ _ _ _ _ _ | exact ih4 _ | exact hinterlandref14_ValidateModels.mono _ _ | exact LeO.refl _ | exact LeO.none _ | refine LeO.ite ?_ ?_ | refine LeO.bind ?_ (fun _ => ?_))
      | exact ih0 _ _ _
      | exact ih1 _ _ _ _ _
      | exact ih2 _ _ _ _ _ _
      | exact ih3 _ _ _ _ _ _
      | exact ih4 _
      | exact hinterlandref14_ValidateModels.mono _ _
      | exact LeO.none _
      | refine LeO.ite ?_ ?_
      | refine LeO.bind ?_ (fun _ => ?_)
    · intro y0 y1 y2 y3 y4 y5
      unfold hinterlandref14_coupled.j2
      repeat' first
      | (with_reducible first | exact ih0 _ _ _ | exact ih1 _ _ _ _ _ | exact ih2 _ _ _ _ _ _ | exact ih3 _ _ _ _ _ _ | exact ih4 _ | exact hinterlandref14_ValidateModels.mono _ _ | exact LeO.refl _ | exact LeO.none _ | refine LeO.ite ?_ ?_ | refine LeO.bind ?_ (fun _ => ?_))
      | exact ih0 _ _ _
      | exact ih1 _ _ _ _ _
      | exact ih2 _ _ _ _ _ _
      | exact ih3 _ _ _ _ _ _
      | exact ih4 _
      | exact hinterlandref14_ValidateModels.mono _ _
      | exact LeO.none _
      | refine LeO.ite ?_ ?_
      | refine LeO.bind ?_ (fun _ => ?_)
    · intro y0 y1 y2 y3 y4 y5
      unfold hinterlandref14_coupled.l1
      repeat' first
      | (with_reducible first | exact ih0 _ _ _ | exact ih1 _ _ _ _ _ | exact ih2 _ _ _ _ _ _ | exact ih3 _ _ _ _ _ _ | exact ih4 _ | exact hinterlandref14_ValidateModels.mono _ _ | exact LeO.refl _ | exact LeO.none _ | refine LeO.ite ?_ ?_ | refine LeO.bind ?_ (fun _ => ?_))
      | exact ih0 _ _ _
      | exact ih1 _ _ _ _ _
      | exact ih2 _ _ _ _ _ _
      | exact ih3 _ _ _ _ _ _
      | exact ih4 _
      | exact hinterlandref14_ValidateModels.mono _ _
      | exact LeO.none _
      | refine LeO.ite ?_ ?_
      | refine LeO.bind ?_ (fun _ => ?_)
    · intro y0
      unfold hinterlandref14_coupled.j4
      repeat' first
      | (with_reducible first | exact ih0 _ _ _ | exact ih1 _ _ _ _ _ | exact ih2 _ _ _ _ _ _ | exact ih3 _ _ _ _ _ _ | exact ih4 _ | exact hinterlandref14_ValidateModels.mono _ _ | exact LeO.refl _ | exact LeO.none _ | refine LeO.ite ?_ ?_ | refine LeO.bind ?_ (fun _ => ?_))
      | exact ih0 _ _ _
      | exact ih1 _ _ _ _ _
      | exact ih2 _ _ _ _ _ _
      | exact ih3 _ _ _ _ _ _
      | exact ih4 _
      | exact hinterlandref14_ValidateModels.mono _ _
      | exact LeO.none _
      | refine LeO.ite ?_ ?_
      | refine LeO.bind ?_ (fun _ => ?_)
theorem hinterlandref14_coupled.mono : ∀ a0 a1 k, LeO (hinterlandref14_coupled.f k a0 a1) (hinterlandref14_coupled.f (k + 1) a0 a1) := by
  intro a0 a1 k
  obtain ⟨ih0, ih1, ih2, ih3, ih4⟩ := hinterlandref14_coupled.mono_l k
  unfold hinterlandref14_coupled.f
  repeat' first
      | (with_reducible first | exact ih0 _ _ _ | exact ih1 _ _ _ _ _ | exact ih2 _ _ _ _ _ _ | exact ih3 _ _ _ _ _ _ | exact ih4 _ | exact hinterlandref14_ValidateModels.mono _ _ | exact LeO.refl _ | exact LeO.none _ | refine LeO.ite ?_ ?_ | refine LeO.bind ?_ (fun _ => ?_))
      | exact ih0 _ _ _
      | exact ih1 _ _ _ _ _
      | exact ih2 _ _ _ _ _ _
      | exact ih3 _ _ _ _ _ _
      | exact ih4 _
      | exact hinterlandref14_ValidateModels.mono _ _
      | exact LeO.none _
      | refine LeO.ite ?_ ?_
      | refine LeO.bind ?_ (fun _ => ?_)
set_option maxHeartbeats 8000000 in
set_option maxRecDepth 100000 in
theorem hinterlandref14_coupled.calls (k : Nat) (A0 : Option Addr) (c0 : Nat) (l0 : List (S54)) (A1 : Option Addr) (c1 : Nat) (l1 : List Int) (r : Int) (w : World) (hr0 : Kd.C k54 w A0 l0.length l0) (hc0 : l0.length ≤ c0) (hr1 : Kd.C (Kd.int .i64) w A1 l1.length l1) (hc1 : l1.length ≤ c1) (h : hinterlandref14_coupled.f k l0 l1 = some r) :
    Calls Try.prog 40 #[.slice A0 l0.length c0, .slice A1 l1.length c1] w fun e w' => e = .returned (.int .i64 r) ∧ Below w.heap.size w w' := by
 have HR0 := Aside0.mk hr0
 have HC0 := Aside0.mk hc0
 clear hr0 hc0
 have HR1 := Aside0.mk hr1
 have HC1 := Aside0.mk hc1
 clear hr1 hc1
 have HB := Aside0.mk (Below.refl w.heap.size w)
 have H : ((hinterlandref14_ValidateModels.f k l0).bind fun t248 => (if t248 = 0 then (if (l1.length : Int) < 1 then (hinterlandref14_coupled.j0 k l0 l1 true) else (hinterlandref14_coupled.j0 k l0 l1 (decide ((l1.length : Int) > 10)))) else (some t248))) = some r := h
 clear h
 replace H := Option.bind_eq_some_iff.mp H
 obtain ⟨t248, A30, H⟩ := H
 replace H : (if t248 = 0 then (if (l1.length : Int) < 1 then (hinterlandref14_coupled.j0 k l0 l1 true) else (hinterlandref14_coupled.j0 k l0 l1 (decide ((l1.length : Int) > 10)))) else (some t248)) = some r := H
 have A3 := Aside0.mk A30
 clear A30
 by_cases c4 : t248 = 0
 ·rw [if_pos c4] at H
  have c4b0 : (t248 == 0) = true := beq_iff_eq.mpr c4
  have c4b1 : (t248 != 0) = false := bne_eq_false_iff_eq.mpr c4
  clear c4
  have HC5 := Aside0.mk H
  clear H
  go_enter Try.func40, Try.ntmps40
  go_upto_region 4 with (first | ((with_reducible refine gate_callee (f := 18) rfl ?_); refine goesL_ (some 12) rfl rfl Try.func18 (by kernel_rfl) rfl #[.slice A0 l0.length c0] rfl tA_ ?_; (with_reducible refine (hinterlandref14_ValidateModels.calls k _ _ l0 t248 _ ?side1 ?side2 A3.out).mono ?_); (case side1 => repeat (first | exact HR0.out | (with_reducible refine Kd.C_alloc ?_ _) | (with_reducible refine Kd.C_drewN ?_ _) | (with_reducible refine Kd.C_drew ?_))); (case side2 => exact HC0.out); rintro e w6 ⟨rfl, hb⟩; refine ⟨_, rfl, ?_⟩; replace HB := Aside0.mk (below_step (dL_ HB) hb)))
  (try simp only [Act.put, List.setIfInBounds_toArray, List.set_cons_zero, List.set_cons_succ])
  go_cut [23] (fun v23 wc => ∃ (kq : Nat) (x23_4 : Bool), v23 = .bool x23_4 ∧ Aside0 (hinterlandref14_coupled.j0 kq l0 l1 x23_4 = some r) ∧ Aside0 (kq ≤ k) ∧ Aside0 (Below w.heap.size w wc))
  case first =>
   have H := HC5.out
   clear HC5
   by_cases c7 : (l1.length : Int) < 1
   ·rw [if_pos c7] at H
    have c7b0 : decide ((l1.length : Int) < 1) = true := decide_eq_true c7
    have c7b1 : decide (l1.length < 1) = true := decide_eq_true (by omega)
    clear c7
    (first | rw [c7b0] | (simp only [i64_w, i32_w]; rw [c7b0]) | skip)
    have H' := Aside0.mk H
    clear H
    go_wp2
    go_meet
    case rel => exact ⟨_, (true), tS_, H', ⟨by first | omega | exact Nat.le_refl _⟩, ⟨dL_ HB⟩⟩
   ·rw [if_neg c7] at H
    have c7b0 : decide ((l1.length : Int) < 1) = false := decide_eq_false c7
    have c7b1 : decide (l1.length < 1) = false := decide_eq_false (by omega)
    clear c7
    (first | rw [c7b0] | (simp only [i64_w, i32_w]; rw [c7b0]) | skip)
    have H' := Aside0.mk H
    clear H
    go_wp2
    go_meet
    case rel => exact ⟨_, (decide ((l1.length : Int) > 10)), tS_, H', ⟨by first | omega | exact Nat.le_refl _⟩, ⟨dL_ HB⟩⟩
  case rest =>
   clear HC5
   try clear c1
   try clear c4
   try clear c4b0
   try clear c4b1
   try clear c7
   obtain ⟨kq, x23_4, rfl, HA, HJ4, HB⟩ := hcut
   cases kq with
   | zero => exact absurd HA.out (by simp [hinterlandref14_coupled.j0])
   | succ kj4 =>
    have H := HA.out
    clear HA
    simp only [hinterlandref14_coupled.j0] at H
    by_cases c8 : x23_4 = true
    ·subst c8
     have H1 : (some 1) = some r := by rw [if_pos rfl] at H; exact H
     clear H
     have H := H1
     clear H1
     obtain rfl := Option.some.inj H
     go_wp2
     go_ret
     exact ⟨tE_, dL_ HB⟩
    ·replace c8 := Bool.eq_false_iff.mpr c8
     subst c8
     have H1 : (hinterlandref14_coupled.l0 kj4 l0 l1 l1 (l1.length : Int) 0) = some r := by rw [if_neg (show ¬ (false = true) by decide)] at H; exact H
     clear H
     have H := H1
     clear H1
     have H' := Aside0.mk H
     clear H
     go_wp2
     go_loopg [26] kj4 (fun kq v26 w' => ∃ (x26_2 : Int), v26 = .int .i64 x26_2 ∧ Aside0 (hinterlandref14_coupled.l0 kq l0 l1 l1 (l1.length : Int) x26_2 = some r) ∧ Aside0 (kq ≤ kj4) ∧ Aside0 (Below w.heap.size w w'))
     case atStart => exact ⟨(0), tS_, H', ⟨Nat.le_refl _⟩, ⟨dL_ HB⟩⟩
     case round =>
      clear H'
      try clear c1
      try clear c4
      try clear c4b0
      try clear c4b1
      try clear c7
      try clear c8
      obtain ⟨x26_2, rfl, HA, HK2, HB⟩ := hrel
      cases gk with
      | zero => exact absurd HA.out (by simp [hinterlandref14_coupled.l0])
      | succ k2 =>
       have H := HA.out
       clear HA
       simp only [hinterlandref14_coupled.l0] at H
       by_cases c9 : x26_2 < (l1.length : Int)
       ·rw [if_pos c9] at H
        have c9b0 : decide (x26_2 < (l1.length : Int)) = true := decide_eq_true c9
        clear c9
        by_cases c10 : 0 ≤ x26_2
        ·rw [if_pos c10] at H
         have c10b0 : decide (0 ≤ x26_2) = true := decide_eq_true c10
         clear c10
         by_cases c11 : x26_2 < (l1.length : Int)
         ·rw [if_pos c11] at H
          have c11b0 : decide (x26_2 < (l1.length : Int)) = true := decide_eq_true c11
          clear c11
          have HC12 := Aside0.mk H
          clear H
          have p249 : 0 ≤ (x26_2 : Int) := of_decide_eq_true tW_
          have q249 : x26_2 < (l1.length : Int) := of_decide_eq_true tW_
          obtain ⟨ad249, e249, hx249_0⟩ := Kd.at_int HR1.out x26_2 p249 q249
          cases e249
          replace hx249_0 := bc_ HB hx249_0
          replace p249 := eq_true p249
          replace q249 := eq_true q249
          go_upto_region 9 with (fail)
          go_cut [37] (fun v37 wc => ∃ (kq : Nat) (x37_11 : Bool), v37 = .bool x37_11 ∧ Aside0 (hinterlandref14_coupled.j2 kq l0 l1 l1 (l1.length : Int) x26_2 x37_11 = some r) ∧ Aside0 (kq ≤ k2) ∧ Aside0 (Below w.heap.size w wc))
          case first =>
           have H := HC12.out
           clear HC12
           by_cases c13 : (rd l1 x26_2) < 0
           ·rw [if_pos c13] at H
            have c13b0 : decide ((rd l1 x26_2) < 0) = true := decide_eq_true c13
            clear c13
            (first | rw [c13b0] | (simp only [i64_w, i32_w]; rw [c13b0]) | skip)
            have H' := Aside0.mk H
            clear H
            go_wp2
            go_meet
            case rel => exact ⟨_, (true), tS_, H', ⟨by have := HJ4.out; have := HK2.out; first | omega | exact Nat.le_refl _⟩, ⟨dL_ HB⟩⟩
           ·rw [if_neg c13] at H
            have c13b0 : decide ((rd l1 x26_2) < 0) = false := decide_eq_false c13
            clear c13
            (first | rw [c13b0] | (simp only [i64_w, i32_w]; rw [c13b0]) | skip)
            have H' := Aside0.mk H
            clear H
            go_wp2
            go_meet
            case rel => exact ⟨_, (decide ((rd l1 x26_2) ≥ (l0.length : Int))), tS_, H', ⟨by have := HJ4.out; have := HK2.out; first | omega | exact Nat.le_refl _⟩, ⟨dL_ HB⟩⟩
          case rest =>
           clear HC12
           try clear c1
           try clear c4
           try clear c4b0
           try clear c4b1
           try clear c7
           try clear c8
           try clear c9
           try clear c9b0
           try clear c10
           try clear c10b0
           try clear c11
           try clear c11b0
           try clear c13
           try clear hx249_0
           try clear p249
           try clear q249
           obtain ⟨kq, x37_11, rfl, HA, HJ11, HB⟩ := hcut
           cases kq with
           | zero => exact absurd HA.out (by simp [hinterlandref14_coupled.j2])
           | succ kj11 =>
            have H := HA.out
            clear HA
            simp only [hinterlandref14_coupled.j2] at H
            by_cases c14 : x37_11 = true
            ·subst c14
             have H1 : (some 2) = some r := by rw [if_pos rfl] at H; exact H
             clear H
             have H := H1
             clear H1
             obtain rfl := Option.some.inj H
             go_wp2
             go_ret
             exact ⟨tE_, dL_ HB⟩
            ·replace c14 := Bool.eq_false_iff.mpr c14
             subst c14
             have H1 : (hinterlandref14_coupled.l0 kj11 l0 l1 l1 (l1.length : Int) (wrap64 (x26_2 + 1))) = some r := by rw [if_neg (show ¬ (false = true) by decide)] at H; exact H
             clear H
             have H := H1
             clear H1
             have H' := Aside0.mk H
             clear H
             go_wp2
             go_roundg kj11
             case measure => have := HJ4.out; have := HK2.out; have := HJ11.out; omega
             case rel => exact ⟨(wrap64 (x26_2 + 1)), tS_, H', ⟨by have := HJ4.out; have := HK2.out; have := HJ11.out; omega⟩, ⟨dL_ HB⟩⟩
         ·rw [if_neg c11] at H
          exact absurd H (by simp)
        ·rw [if_neg c10] at H
         exact absurd H (by simp)
       ·rw [if_neg c9] at H
        have c9b0 : decide (x26_2 < (l1.length : Int)) = false := decide_eq_false c9
        clear c9
        by_cases c15 : 0 < (l1.length : Int)
        ·rw [if_pos c15] at H
         have c15b0 : decide (0 < (l1.length : Int)) = true := decide_eq_true c15
         have c15b1 : decide (0 < l1.length) = true := decide_eq_true (by omega)
         clear c15
         by_cases c16 : 0 ≤ (rd l1 0)
         ·rw [if_pos c16] at H
          have c16b0 : decide (0 ≤ (rd l1 0)) = true := decide_eq_true c16
          clear c16
          by_cases c17 : (rd l1 0) < (l0.length : Int)
          ·rw [if_pos c17] at H
           have c17b0 : decide ((rd l1 0) < (l0.length : Int)) = true := decide_eq_true c17
           clear c17
           have H' := Aside0.mk H
           clear H
           have p250 : 0 ≤ (0 : Int) := (by omega)
           have q250 : 0 < (l1.length : Int) := of_decide_eq_true tW_
           obtain ⟨ad250, e250, hx250_0⟩ := Kd.at_int HR1.out 0 p250 q250
           cases e250
           have qi250 : (0 < l1.length) = True := eq_true (by omega)
           (try rw [show ((0 : Int)).toNat = 0 from rfl] at hx250_0)
           (try rw [Addr.add_zero'] at hx250_0)
           replace hx250_0 := bc_ HB hx250_0
           replace p250 := eq_true p250
           replace q250 := eq_true q250
           have p251 : 0 ≤ ((rd l1 0) : Int) := of_decide_eq_true tW_
           have q251 : (rd l1 0) < (l0.length : Int) := of_decide_eq_true tW_
           obtain ⟨ad251, e251, hx251_0, hx251_1, hx251_2, hx251_3, hx251_4, hx251_5, hx251_6, hx251_7, hx251_8, hx251_9, hx251_10, hx251_11, hx251_12, hx251_13⟩ := at_T54 HR0.out (rd l1 0) p251 q251
           cases e251
           replace hx251_0 := bc_ HB hx251_0
           replace hx251_1 := bc_ HB hx251_1
           replace hx251_2 := bc_ HB hx251_2
           replace hx251_3 := bc_ HB hx251_3
           replace hx251_4 := bc_ HB hx251_4
           replace hx251_5 := bc_ HB hx251_5
           replace hx251_6 := bc_ HB hx251_6
           replace hx251_7 := bc_ HB hx251_7
           replace hx251_8 := bc_ HB hx251_8
           replace hx251_9 := bc_ HB hx251_9
           replace hx251_10 := bc_ HB hx251_10
           replace hx251_11 := bc_ HB hx251_11
           replace hx251_12 := bc_ HB hx251_12
           replace hx251_13 := bc_ HB hx251_13
           replace p251 := eq_true p251
           replace q251 := eq_true q251
           go_wp2
           go_loopg [48] k2 (fun kq v48 w' => ∃ (x48_3 : Int), v48 = .int .i64 x48_3 ∧ Aside0 (hinterlandref14_coupled.l1 kq l0 l1 ((rd_T54 l0 (rd l1 0)).f1) l1 (l1.length : Int) x48_3 = some r) ∧ Aside0 (kq ≤ k2) ∧ Aside0 (Below w.heap.size w w'))
           case atStart => exact ⟨(0), tS_, H', ⟨Nat.le_refl _⟩, ⟨dL_ HB⟩⟩
           case round =>
            clear H'
            try clear c1
            try clear c4
            try clear c4b0
            try clear c4b1
            try clear c7
            try clear c8
            try clear c9
            try clear c9b0
            try clear c10
            try clear c11
            try clear c13
            try clear c15
            try clear c15b0
            try clear c15b1
            try clear c16
            try clear c16b0
            try clear c17
            try clear c17b0
            try clear hx250_0
            try clear hx251_0
            try clear hx251_1
            try clear hx251_10
            try clear hx251_11
            try clear hx251_12
            try clear hx251_13
            try clear hx251_2
            try clear hx251_3
            try clear hx251_4
            try clear hx251_5
            try clear hx251_6
            try clear hx251_7
            try clear hx251_8
            try clear hx251_9
            try clear p250
            try clear p251
            try clear q250
            try clear q251
            obtain ⟨x48_3, rfl, HA, HK3, HB⟩ := hrel
            cases gk with
            | zero => exact absurd HA.out (by simp [hinterlandref14_coupled.l1])
            | succ k3 =>
             have H := HA.out
             clear HA
             simp only [hinterlandref14_coupled.l1] at H
             by_cases c18 : x48_3 < (l1.length : Int)
             ·rw [if_pos c18] at H
              have c18b0 : decide (x48_3 < (l1.length : Int)) = true := decide_eq_true c18
              clear c18
              by_cases c19 : 0 ≤ x48_3
              ·rw [if_pos c19] at H
               have c19b0 : decide (0 ≤ x48_3) = true := decide_eq_true c19
               clear c19
               by_cases c20 : x48_3 < (l1.length : Int)
               ·rw [if_pos c20] at H
                have c20b0 : decide (x48_3 < (l1.length : Int)) = true := decide_eq_true c20
                clear c20
                by_cases c21 : 0 ≤ (rd l1 x48_3)
                ·rw [if_pos c21] at H
                 have c21b0 : decide (0 ≤ (rd l1 x48_3)) = true := decide_eq_true c21
                 clear c21
                 by_cases c22 : (rd l1 x48_3) < (l0.length : Int)
                 ·rw [if_pos c22] at H
                  have c22b0 : decide ((rd l1 x48_3) < (l0.length : Int)) = true := decide_eq_true c22
                  clear c22
                  by_cases c23 : ((rd_T54 l0 (rd l1 x48_3)).f1) = ((rd_T54 l0 (rd l1 0)).f1)
                  ·rw [if_pos c23] at H
                   have c23b0 : (((rd_T54 l0 (rd l1 x48_3)).f1) == ((rd_T54 l0 (rd l1 0)).f1)) = true := beq_iff_eq.mpr c23
                   have c23b1 : (((rd_T54 l0 (rd l1 x48_3)).f1) != ((rd_T54 l0 (rd l1 0)).f1)) = false := bne_eq_false_iff_eq.mpr c23
                   clear c23
                   have H' := Aside0.mk H
                   clear H
                   have p252 : 0 ≤ (x48_3 : Int) := of_decide_eq_true tW_
                   have q252 : x48_3 < (l1.length : Int) := of_decide_eq_true tW_
                   obtain ⟨ad252, e252, hx252_0⟩ := Kd.at_int HR1.out x48_3 p252 q252
                   obtain rfl : ad250 = ad252 := (by injection e252)
                   replace hx252_0 := bc_ HB hx252_0
                   replace p252 := eq_true p252
                   replace q252 := eq_true q252
                   have p253 : 0 ≤ ((rd l1 x48_3) : Int) := of_decide_eq_true tW_
                   have q253 : (rd l1 x48_3) < (l0.length : Int) := of_decide_eq_true tW_
                   obtain ⟨ad253, e253, hx253_0, hx253_1, hx253_2, hx253_3, hx253_4, hx253_5, hx253_6, hx253_7, hx253_8, hx253_9, hx253_10, hx253_11, hx253_12, hx253_13⟩ := at_T54 HR0.out (rd l1 x48_3) p253 q253
                   obtain rfl : ad251 = ad253 := (by injection e253)
                   replace hx253_0 := bc_ HB hx253_0
                   replace hx253_1 := bc_ HB hx253_1
                   replace hx253_2 := bc_ HB hx253_2
                   replace hx253_3 := bc_ HB hx253_3
                   replace hx253_4 := bc_ HB hx253_4
                   replace hx253_5 := bc_ HB hx253_5
                   replace hx253_6 := bc_ HB hx253_6
                   replace hx253_7 := bc_ HB hx253_7
                   replace hx253_8 := bc_ HB hx253_8
                   replace hx253_9 := bc_ HB hx253_9
                   replace hx253_10 := bc_ HB hx253_10
                   replace hx253_11 := bc_ HB hx253_11
                   replace hx253_12 := bc_ HB hx253_12
                   replace hx253_13 := bc_ HB hx253_13
                   replace p253 := eq_true p253
                   replace q253 := eq_true q253
                   go_wp2
                   go_roundg k3
                   case measure => have := HJ4.out; have := HK2.out; have := HK3.out; omega
                   case rel => exact ⟨(wrap64 (x48_3 + 1)), tS_, H', ⟨by have := HJ4.out; have := HK2.out; have := HK3.out; omega⟩, ⟨dL_ HB⟩⟩
                  ·rw [if_neg c23] at H
                   have c23b0 : (((rd_T54 l0 (rd l1 x48_3)).f1) == ((rd_T54 l0 (rd l1 0)).f1)) = false := beq_eq_false_iff_ne.mpr c23
                   have c23b1 : (((rd_T54 l0 (rd l1 x48_3)).f1) != ((rd_T54 l0 (rd l1 0)).f1)) = true := bne_iff_ne.mpr c23
                   obtain rfl := Option.some.inj H
                   have p252 : 0 ≤ (x48_3 : Int) := of_decide_eq_true tW_
                   have q252 : x48_3 < (l1.length : Int) := of_decide_eq_true tW_
                   obtain ⟨ad252, e252, hx252_0⟩ := Kd.at_int HR1.out x48_3 p252 q252
                   obtain rfl : ad250 = ad252 := (by injection e252)
                   replace hx252_0 := bc_ HB hx252_0
                   replace p252 := eq_true p252
                   replace q252 := eq_true q252
                   have p253 : 0 ≤ ((rd l1 x48_3) : Int) := of_decide_eq_true tW_
                   have q253 : (rd l1 x48_3) < (l0.length : Int) := of_decide_eq_true tW_
                   obtain ⟨ad253, e253, hx253_0, hx253_1, hx253_2, hx253_3, hx253_4, hx253_5, hx253_6, hx253_7, hx253_8, hx253_9, hx253_10, hx253_11, hx253_12, hx253_13⟩ := at_T54 HR0.out (rd l1 x48_3) p253 q253
                   obtain rfl : ad251 = ad253 := (by injection e253)
                   replace hx253_0 := bc_ HB hx253_0
                   replace hx253_1 := bc_ HB hx253_1
                   replace hx253_2 := bc_ HB hx253_2
                   replace hx253_3 := bc_ HB hx253_3
                   replace hx253_4 := bc_ HB hx253_4
                   replace hx253_5 := bc_ HB hx253_5
                   replace hx253_6 := bc_ HB hx253_6
                   replace hx253_7 := bc_ HB hx253_7
                   replace hx253_8 := bc_ HB hx253_8
                   replace hx253_9 := bc_ HB hx253_9
                   replace hx253_10 := bc_ HB hx253_10
                   replace hx253_11 := bc_ HB hx253_11
                   replace hx253_12 := bc_ HB hx253_12
                   replace hx253_13 := bc_ HB hx253_13
                   replace p253 := eq_true p253
                   replace q253 := eq_true q253
                   go_wp2
                   go_ret
                   exact ⟨tE_, dL_ HB⟩
                 ·rw [if_neg c22] at H
                  exact absurd H (by simp)
                ·rw [if_neg c21] at H
                 exact absurd H (by simp)
               ·rw [if_neg c20] at H
                exact absurd H (by simp)
              ·rw [if_neg c19] at H
               exact absurd H (by simp)
             ·rw [if_neg c18] at H
              have c18b0 : decide (x48_3 < (l1.length : Int)) = false := decide_eq_false c18
              clear c18
              have HC24 := Aside0.mk H
              clear H
              go_upto_region 19 with (fail)
              go_cut [80] (fun v80 wc => ∃ (kq : Nat) (x80_23 : Bool), v80 = .bool x80_23 ∧ Aside0 (hinterlandref14_coupled.j4 kq x80_23 = some r) ∧ Aside0 (kq ≤ k3) ∧ Aside0 (Below w.heap.size w wc))
              case first =>
               have H := HC24.out
               clear HC24
               by_cases c25 : ((rd_T54 l0 (rd l1 0)).f1) = 0
               ·rw [if_pos c25] at H
                have c25b0 : (((rd_T54 l0 (rd l1 0)).f1) == 0) = true := beq_iff_eq.mpr c25
                have c25b1 : (((rd_T54 l0 (rd l1 0)).f1) != 0) = false := bne_eq_false_iff_eq.mpr c25
                clear c25
                (first | rw [c25b0] | (simp only [i64_w, i32_w]; rw [c25b0]) | skip)
                by_cases c26 : 0 < (l1.length : Int)
                ·rw [if_pos c26] at H
                 have c26b0 : decide (0 < (l1.length : Int)) = true := decide_eq_true c26
                 have c26b1 : decide (0 < l1.length) = true := decide_eq_true (by omega)
                 clear c26
                 by_cases c27 : 0 ≤ (rd l1 0)
                 ·rw [if_pos c27] at H
                  have c27b0 : decide (0 ≤ (rd l1 0)) = true := decide_eq_true c27
                  clear c27
                  by_cases c28 : (rd l1 0) < (l0.length : Int)
                  ·rw [if_pos c28] at H
                   have c28b0 : decide ((rd l1 0) < (l0.length : Int)) = true := decide_eq_true c28
                   clear c28
                   by_cases c29 : ((rd_T54 l0 (rd l1 0)).f3) = 0
                   ·rw [if_pos c29] at H
                    have c29b0 : (((rd_T54 l0 (rd l1 0)).f3) == 0) = true := beq_iff_eq.mpr c29
                    have c29b1 : (((rd_T54 l0 (rd l1 0)).f3) != 0) = false := bne_eq_false_iff_eq.mpr c29
                    clear c29
                    have H' := Aside0.mk H
                    clear H
                    have p254 : 0 ≤ (0 : Int) := (by omega)
                    have q254 : 0 < (l1.length : Int) := of_decide_eq_true tW_
                    obtain ⟨ad254, e254, hx254_0⟩ := Kd.at_int HR1.out 0 p254 q254
                    obtain rfl : ad250 = ad254 := (by injection e254)
                    have qi254 : (0 < l1.length) = True := eq_true (by omega)
                    (try rw [show ((0 : Int)).toNat = 0 from rfl] at hx254_0)
                    (try rw [Addr.add_zero'] at hx254_0)
                    replace hx254_0 := bc_ HB hx254_0
                    replace p254 := eq_true p254
                    replace q254 := eq_true q254
                    have p255 : 0 ≤ ((rd l1 0) : Int) := of_decide_eq_true tW_
                    have q255 : (rd l1 0) < (l0.length : Int) := of_decide_eq_true tW_
                    obtain ⟨ad255, e255, hx255_0, hx255_1, hx255_2, hx255_3, hx255_4, hx255_5, hx255_6, hx255_7, hx255_8, hx255_9, hx255_10, hx255_11, hx255_12, hx255_13⟩ := at_T54 HR0.out (rd l1 0) p255 q255
                    obtain rfl : ad251 = ad255 := (by injection e255)
                    replace hx255_0 := bc_ HB hx255_0
                    replace hx255_1 := bc_ HB hx255_1
                    replace hx255_2 := bc_ HB hx255_2
                    replace hx255_3 := bc_ HB hx255_3
                    replace hx255_4 := bc_ HB hx255_4
                    replace hx255_5 := bc_ HB hx255_5
                    replace hx255_6 := bc_ HB hx255_6
                    replace hx255_7 := bc_ HB hx255_7
                    replace hx255_8 := bc_ HB hx255_8
                    replace hx255_9 := bc_ HB hx255_9
                    replace hx255_10 := bc_ HB hx255_10
                    replace hx255_11 := bc_ HB hx255_11
                    replace hx255_12 := bc_ HB hx255_12
                    replace hx255_13 := bc_ HB hx255_13
                    replace p255 := eq_true p255
                    replace q255 := eq_true q255
                    go_wp2
                    go_meet
                    case rel => exact ⟨_, (true), tS_, H', ⟨by have := HJ4.out; have := HK2.out; have := HK3.out; first | omega | exact Nat.le_refl _⟩, ⟨dL_ HB⟩⟩
                   ·rw [if_neg c29] at H
                    have c29b0 : (((rd_T54 l0 (rd l1 0)).f3) == 0) = false := beq_eq_false_iff_ne.mpr c29
                    have c29b1 : (((rd_T54 l0 (rd l1 0)).f3) != 0) = true := bne_iff_ne.mpr c29
                    have H' := Aside0.mk H
                    clear H
                    have p254 : 0 ≤ (0 : Int) := (by omega)
                    have q254 : 0 < (l1.length : Int) := of_decide_eq_true tW_
                    obtain ⟨ad254, e254, hx254_0⟩ := Kd.at_int HR1.out 0 p254 q254
                    obtain rfl : ad250 = ad254 := (by injection e254)
                    have qi254 : (0 < l1.length) = True := eq_true (by omega)
                    (try rw [show ((0 : Int)).toNat = 0 from rfl] at hx254_0)
                    (try rw [Addr.add_zero'] at hx254_0)
                    replace hx254_0 := bc_ HB hx254_0
                    replace p254 := eq_true p254
                    replace q254 := eq_true q254
                    have p255 : 0 ≤ ((rd l1 0) : Int) := of_decide_eq_true tW_
                    have q255 : (rd l1 0) < (l0.length : Int) := of_decide_eq_true tW_
                    obtain ⟨ad255, e255, hx255_0, hx255_1, hx255_2, hx255_3, hx255_4, hx255_5, hx255_6, hx255_7, hx255_8, hx255_9, hx255_10, hx255_11, hx255_12, hx255_13⟩ := at_T54 HR0.out (rd l1 0) p255 q255
                    obtain rfl : ad251 = ad255 := (by injection e255)
                    replace hx255_0 := bc_ HB hx255_0
                    replace hx255_1 := bc_ HB hx255_1
                    replace hx255_2 := bc_ HB hx255_2
                    replace hx255_3 := bc_ HB hx255_3
                    replace hx255_4 := bc_ HB hx255_4
                    replace hx255_5 := bc_ HB hx255_5
                    replace hx255_6 := bc_ HB hx255_6
                    replace hx255_7 := bc_ HB hx255_7
                    replace hx255_8 := bc_ HB hx255_8
                    replace hx255_9 := bc_ HB hx255_9
                    replace hx255_10 := bc_ HB hx255_10
                    replace hx255_11 := bc_ HB hx255_11
                    replace hx255_12 := bc_ HB hx255_12
                    replace hx255_13 := bc_ HB hx255_13
                    replace p255 := eq_true p255
                    replace q255 := eq_true q255
                    go_wp2
                    go_meet
                    case rel => exact ⟨_, (false), tS_, H', ⟨by have := HJ4.out; have := HK2.out; have := HK3.out; first | omega | exact Nat.le_refl _⟩, ⟨dL_ HB⟩⟩
                  ·rw [if_neg c28] at H
                   exact absurd H (by simp)
                 ·rw [if_neg c27] at H
                  exact absurd H (by simp)
                ·rw [if_neg c26] at H
                 exact absurd H (by simp)
               ·rw [if_neg c25] at H
                have c25b0 : (((rd_T54 l0 (rd l1 0)).f1) == 0) = false := beq_eq_false_iff_ne.mpr c25
                have c25b1 : (((rd_T54 l0 (rd l1 0)).f1) != 0) = true := bne_iff_ne.mpr c25
                (first | rw [c25b0] | (simp only [i64_w, i32_w]; rw [c25b0]) | skip)
                have H' := Aside0.mk H
                clear H
                go_wp2
                go_meet
                case rel => exact ⟨_, (decide ((l1.length : Int) > 1)), tS_, H', ⟨by have := HJ4.out; have := HK2.out; have := HK3.out; first | omega | exact Nat.le_refl _⟩, ⟨dL_ HB⟩⟩
              case rest =>
               clear HC24
               try clear c1
               try clear c4
               try clear c4b0
               try clear c4b1
               try clear c7
               try clear c8
               try clear c9
               try clear c9b0
               try clear c10
               try clear c11
               try clear c13
               try clear c15
               try clear c15b0
               try clear c15b1
               try clear c16
               try clear c16b0
               try clear c17
               try clear c17b0
               try clear c18
               try clear c18b0
               try clear c19
               try clear c20
               try clear c21
               try clear c22
               try clear c23
               try clear c25
               try clear c26
               try clear c27
               try clear c28
               try clear c29
               try clear hx250_0
               try clear hx251_0
               try clear hx251_1
               try clear hx251_10
               try clear hx251_11
               try clear hx251_12
               try clear hx251_13
               try clear hx251_2
               try clear hx251_3
               try clear hx251_4
               try clear hx251_5
               try clear hx251_6
               try clear hx251_7
               try clear hx251_8
               try clear hx251_9
               try clear p250
               try clear p251
               try clear q250
               try clear q251
               obtain ⟨kq, x80_23, rfl, HA, HJ23, HB⟩ := hcut
               cases kq with
               | zero => exact absurd HA.out (by simp [hinterlandref14_coupled.j4])
               | succ kj23 =>
                have H := HA.out
                clear HA
                simp only [hinterlandref14_coupled.j4] at H
                by_cases c30 : x80_23 = true
                ·subst c30
                 have H1 : (some 8) = some r := by rw [if_pos rfl] at H; exact H
                 clear H
                 have H := H1
                 clear H1
                 obtain rfl := Option.some.inj H
                 go_wp2
                 go_ret
                 exact ⟨tE_, dL_ HB⟩
                ·replace c30 := Bool.eq_false_iff.mpr c30
                 subst c30
                 have H1 : (some 0) = some r := by rw [if_neg (show ¬ (false = true) by decide)] at H; exact H
                 clear H
                 have H := H1
                 clear H1
                 obtain rfl := Option.some.inj H
                 go_wp2
                 go_ret
                 exact ⟨tE_, dL_ HB⟩
          ·rw [if_neg c17] at H
           exact absurd H (by simp)
         ·rw [if_neg c16] at H
          exact absurd H (by simp)
        ·rw [if_neg c15] at H
         exact absurd H (by simp)
 ·rw [if_neg c4] at H
  have c4b0 : (t248 == 0) = false := beq_eq_false_iff_ne.mpr c4
  have c4b1 : (t248 != 0) = true := bne_iff_ne.mpr c4
  obtain rfl := Option.some.inj H
  go_enter Try.func40, Try.ntmps40
  go_wp2_with (first | ((with_reducible refine gate_callee (f := 18) rfl ?_); refine goesL_ (some 12) rfl rfl Try.func18 (by kernel_rfl) rfl #[.slice A0 l0.length c0] rfl tA_ ?_; (with_reducible refine (hinterlandref14_ValidateModels.calls k _ _ l0 t248 _ ?side1 ?side2 A3.out).mono ?_); (case side1 => repeat (first | exact HR0.out | (with_reducible refine Kd.C_alloc ?_ _) | (with_reducible refine Kd.C_drewN ?_ _) | (with_reducible refine Kd.C_drew ?_))); (case side2 => exact HC0.out); rintro e w31 ⟨rfl, hb⟩; refine ⟨_, rfl, ?_⟩; replace HB := Aside0.mk (below_step (dL_ HB) hb)))
  go_ret
  exact ⟨tE_, dL_ HB⟩

end Go.Proofs.Ytgnahbjpockdmaa.Q
namespace Go.Proofs.Ytgnahbjpockdmaa.Q
open Go.RowKit Go.Proofs.YtgnahbjpockdmaaPrs Go.Proofs.YtgnahbjpockdmaaOwn Go.Proofs.YtgnahbjpockdmaaW.PrintWords Go.Proofs.YtgnahbjpockdmaaW.PrintLast Go.Proofs.YtgnahbjpockdmaaW.PrintMore
attribute [local go_sem] max2_int min2_int max_two min_two max_three min_three max_four min_four   -- for this text's walks alone
set_option linter.unusedVariables false
set_option linter.unusedSimpArgs false

/-! ### cargo_within: function 65 -/
def cargo_within.f (a0 : Int) (a1 : Int) : Option (Bool) := if a0 ≥ 0 then (some (decide (a0 ≤ a1))) else (some false)
set_option maxHeartbeats 8000000 in
set_option maxRecDepth 100000 in
theorem cargo_within.calls (a0 : Int) (a1 : Int) (r : Bool) (w : World) (h : cargo_within.f a0 a1 = some r) :
    Calls Try.prog 65 #[.int .i64 a0, .int .i64 a1] w fun e w' => e = .returned (.bool r) ∧ Drawn0 w w' := by
 have H : (if a0 ≥ 0 then (some (decide (a0 ≤ a1))) else (some false)) = some r := h
 clear h
 by_cases c3 : a0 ≥ 0
 ·rw [if_pos c3] at H
  have c3b0 : decide (0 ≤ a0) = true := decide_eq_true c3
  clear c3
  obtain rfl := Option.some.inj H
  go_enter Try.func65, Try.ntmps65
  go_wp2
  go_ret
  exact ⟨tS_, by repeat (first | exact Drawn0.refl _ | apply Drawn0.step)⟩
 ·rw [if_neg c3] at H
  have c3b0 : decide (0 ≤ a0) = false := decide_eq_false c3
  clear c3
  obtain rfl := Option.some.inj H
  go_enter Try.func65, Try.ntmps65
  go_wp2
  go_ret
  exact ⟨tS_, by repeat (first | exact Drawn0.refl _ | apply Drawn0.step)⟩

end Go.Proofs.Ytgnahbjpockdmaa.Q
