-- PRINTED by print.py out of the translation. Not trusted: Lean checks it.
import Derived.Test.YtgnahbjpockdmaaPrs
import Derived.Test.YtgnahbjpockdmaaQ0
namespace Go.Proofs.Ytgnahbjpockdmaa.Q
open Go.RowKit Go.Proofs.YtgnahbjpockdmaaPrs Go.Proofs.YtgnahbjpockdmaaOwn Go.Proofs.YtgnahbjpockdmaaW.PrintWords Go.Proofs.YtgnahbjpockdmaaW.PrintLast Go.Proofs.YtgnahbjpockdmaaW.PrintMore
attribute [local go_sem] max2_int min2_int max_two min_two max_three min_three max_four min_four   -- for this text's walks alone
set_option linter.unusedVariables false
set_option linter.unusedSimpArgs false

/-! ### fleet_trust: function 48 -/
def fleet_trust.f (a0_0 : ByteArray) (a0_1 : Int) (a0_2 : Int) (a0_3 : Int) (a0_4 : Int) (a0_5 : Int) (a0_6 : Int) (a0_7 : Int) (a0_8 : Int) (a0_9 : Int) (a0_10 : Int) (a0_11 : Int) (a0_12 : Int) (a0_13 : Bool) : Option (Int) := some a0_12
set_option maxHeartbeats 8000000 in
set_option maxRecDepth 100000 in
theorem fleet_trust.calls (a0_0 : ByteArray) (a0_1 : Int) (a0_2 : Int) (a0_3 : Int) (a0_4 : Int) (a0_5 : Int) (a0_6 : Int) (a0_7 : Int) (a0_8 : Int) (a0_9 : Int) (a0_10 : Int) (a0_11 : Int) (a0_12 : Int) (a0_13 : Bool) (r : Int) (w : World) (h : fleet_trust.f a0_0 a0_1 a0_2 a0_3 a0_4 a0_5 a0_6 a0_7 a0_8 a0_9 a0_10 a0_11 a0_12 a0_13 = some r) :
    Calls Try.prog 48 #[.agg #[.string a0_0, .int .i64 a0_1, .int .i64 a0_2, .int .i64 a0_3, .int .i64 a0_4, .int .i64 a0_5, .int .i64 a0_6, .int .i64 a0_7, .int .i64 a0_8, .int .i64 a0_9, .int .i64 a0_10, .int .i64 a0_11, .int .i64 a0_12, .bool a0_13]] w fun e w' => e = .returned (.int .i64 r) ∧ Below w.heap.size w w' := by
 have hu54 := Try.underlying54
 have HB := Aside0.mk (Below.refl w.heap.size w)
 have H : (some a0_12) = some r := h
 clear h
 obtain rfl := Option.some.inj H
 go_enter Try.func48, Try.ntmps48
 go_wp2_with (first | ((with_reducible refine gate_dst (N := 1) rfl ?_); refine box_event ?hg (N := 1) ?hd (cs := #[.string a0_0, .int .i64 a0_1, .int .i64 a0_2, .int .i64 a0_3, .int .i64 a0_4, .int .i64 a0_5, .int .i64 a0_6, .int .i64 a0_7, .int .i64 a0_8, .int .i64 a0_9, .int .i64 a0_10, .int .i64 a0_11, .int .i64 a0_12, .bool a0_13]) (t := 54) ?hr ?_; (case hd => rfl); (case hg => rfl); (case hr => first | (go_simp; done) | (go_simp; rfl)); intro gb472 hg w2 hbox hb; have n0_ := Aside0.mk (below_step (dL_ HB) hb); have n1_ := Aside0.mk (hbox); have n2_ := Aside0.mk ((dS_ hg (dL_ HB) : w.heap.size ≤ gb472)); have n3_ := Aside0.mk ((dS_ hg (dL_ HB) : w.heap.size ≤ gb472)); clear HB; have HB := n0_; have BK472 := n1_; have GW472 := n2_; have GE472 := n3_; clear n0_ n1_ n2_ n3_; clear hb hbox hg; obtain ⟨hcz3_0, hcz3_1, hcz3_2, hcz3_3, hcz3_4, hcz3_5, hcz3_6, hcz3_7, hcz3_8, hcz3_9, hcz3_10, hcz3_11, hcz3_12, hcz3_13, hfz3_0, hfz3_1, hfz3_2, hfz3_3, hfz3_4, hfz3_5, hfz3_6, hfz3_7, hfz3_8, hfz3_9, hfz3_10, hfz3_11, hfz3_12, hfz3_13⟩ := cs14_ BK472.out))
 go_ret
 exact ⟨tE_, dL1_ HB GE472⟩

/-! ### fleet_life: function 64 -/
def fleet_life.f (a0_0 : ByteArray) (a0_1 : Int) (a0_2 : Int) (a0_3 : Int) (a0_4 : Int) (a0_5 : Int) (a0_6 : Int) (a0_7 : Int) (a0_8 : Int) (a0_9 : Int) (a0_10 : Int) (a0_11 : Int) (a0_12 : Int) (a0_13 : Bool) : Option (Int) := some a0_11
set_option maxHeartbeats 8000000 in
set_option maxRecDepth 100000 in
theorem fleet_life.calls (a0_0 : ByteArray) (a0_1 : Int) (a0_2 : Int) (a0_3 : Int) (a0_4 : Int) (a0_5 : Int) (a0_6 : Int) (a0_7 : Int) (a0_8 : Int) (a0_9 : Int) (a0_10 : Int) (a0_11 : Int) (a0_12 : Int) (a0_13 : Bool) (r : Int) (w : World) (h : fleet_life.f a0_0 a0_1 a0_2 a0_3 a0_4 a0_5 a0_6 a0_7 a0_8 a0_9 a0_10 a0_11 a0_12 a0_13 = some r) :
    Calls Try.prog 64 #[.agg #[.string a0_0, .int .i64 a0_1, .int .i64 a0_2, .int .i64 a0_3, .int .i64 a0_4, .int .i64 a0_5, .int .i64 a0_6, .int .i64 a0_7, .int .i64 a0_8, .int .i64 a0_9, .int .i64 a0_10, .int .i64 a0_11, .int .i64 a0_12, .bool a0_13]] w fun e w' => e = .returned (.int .i64 r) ∧ Below w.heap.size w w' := by
 have hu54 := Try.underlying54
 have HB := Aside0.mk (Below.refl w.heap.size w)
 have H : (some a0_11) = some r := h
 clear h
 obtain rfl := Option.some.inj H
 go_enter Try.func64, Try.ntmps64
 go_wp2_with (first | ((with_reducible refine gate_dst (N := 1) rfl ?_); refine box_event ?hg (N := 1) ?hd (cs := #[.string a0_0, .int .i64 a0_1, .int .i64 a0_2, .int .i64 a0_3, .int .i64 a0_4, .int .i64 a0_5, .int .i64 a0_6, .int .i64 a0_7, .int .i64 a0_8, .int .i64 a0_9, .int .i64 a0_10, .int .i64 a0_11, .int .i64 a0_12, .bool a0_13]) (t := 54) ?hr ?_; (case hd => rfl); (case hg => rfl); (case hr => first | (go_simp; done) | (go_simp; rfl)); intro gb473 hg w2 hbox hb; have n0_ := Aside0.mk (below_step (dL_ HB) hb); have n1_ := Aside0.mk (hbox); have n2_ := Aside0.mk ((dS_ hg (dL_ HB) : w.heap.size ≤ gb473)); have n3_ := Aside0.mk ((dS_ hg (dL_ HB) : w.heap.size ≤ gb473)); clear HB; have HB := n0_; have BK473 := n1_; have GW473 := n2_; have GE473 := n3_; clear n0_ n1_ n2_ n3_; clear hb hbox hg; obtain ⟨hcz3_0, hcz3_1, hcz3_2, hcz3_3, hcz3_4, hcz3_5, hcz3_6, hcz3_7, hcz3_8, hcz3_9, hcz3_10, hcz3_11, hcz3_12, hcz3_13, hfz3_0, hfz3_1, hfz3_2, hfz3_3, hfz3_4, hfz3_5, hfz3_6, hfz3_7, hfz3_8, hfz3_9, hfz3_10, hfz3_11, hfz3_12, hfz3_13⟩ := cs14_ BK473.out))
 go_ret
 exact ⟨tE_, dL1_ HB GE473⟩

end Go.Proofs.Ytgnahbjpockdmaa.Q
namespace Go.Proofs.Ytgnahbjpockdmaa.Q
open Go.RowKit Go.Proofs.YtgnahbjpockdmaaPrs Go.Proofs.YtgnahbjpockdmaaOwn Go.Proofs.YtgnahbjpockdmaaW.PrintWords Go.Proofs.YtgnahbjpockdmaaW.PrintLast Go.Proofs.YtgnahbjpockdmaaW.PrintMore
attribute [local go_sem] max2_int min2_int max_two min_two max_three min_three max_four min_four   -- for this text's walks alone
set_option linter.unusedVariables false
set_option linter.unusedSimpArgs false

/-! ### fleet_least_trust: function 47 -/
def fleet_least_trust.l0 : Nat → List (S54) → Int → List Int → Int → Int → Option (Int)
  | 0, _, _, _, _, _ => none
  | k + 1, x0, x7, x18, x19, x20 => if x20 < x19 then (if 0 ≤ x20 then (if x20 < (x18.length : Int) then (if 0 ≤ (rd x18 x20) then (if (rd x18 x20) < (x0.length : Int) then ((fleet_trust.f ((rd_T54 x0 (rd x18 x20)).f0) ((rd_T54 x0 (rd x18 x20)).f1) ((rd_T54 x0 (rd x18 x20)).f2) ((rd_T54 x0 (rd x18 x20)).f3) ((rd_T54 x0 (rd x18 x20)).f4) ((rd_T54 x0 (rd x18 x20)).f5) ((rd_T54 x0 (rd x18 x20)).f6) ((rd_T54 x0 (rd x18 x20)).f7) ((rd_T54 x0 (rd x18 x20)).f8) ((rd_T54 x0 (rd x18 x20)).f9) ((rd_T54 x0 (rd x18 x20)).f10) ((rd_T54 x0 (rd x18 x20)).f11) ((rd_T54 x0 (rd x18 x20)).f12) ((rd_T54 x0 (rd x18 x20)).f13)).bind fun t479 => (fleet_least_trust.l0 k x0 (mn x7 t479) x18 x19 (wrap64 (x20 + 1)))) else (none)) else (none)) else (none)) else (none)) else (some x7)
def fleet_least_trust.f (k : Nat) (l0 : List (S54)) (l1 : List Int)  : Option (Int) := if 0 < (l1.length : Int) then (if 0 ≤ (rd l1 0) then (if (rd l1 0) < (l0.length : Int) then ((fleet_trust.f ((rd_T54 l0 (rd l1 0)).f0) ((rd_T54 l0 (rd l1 0)).f1) ((rd_T54 l0 (rd l1 0)).f2) ((rd_T54 l0 (rd l1 0)).f3) ((rd_T54 l0 (rd l1 0)).f4) ((rd_T54 l0 (rd l1 0)).f5) ((rd_T54 l0 (rd l1 0)).f6) ((rd_T54 l0 (rd l1 0)).f7) ((rd_T54 l0 (rd l1 0)).f8) ((rd_T54 l0 (rd l1 0)).f9) ((rd_T54 l0 (rd l1 0)).f10) ((rd_T54 l0 (rd l1 0)).f11) ((rd_T54 l0 (rd l1 0)).f12) ((rd_T54 l0 (rd l1 0)).f13)).bind fun t476 => (fleet_least_trust.l0 k l0 t476 l1 (l1.length : Int) 0)) else (none)) else (none)) else (none)
theorem fleet_least_trust.mono_l : ∀ k, (∀ y0 y1 y2 y3 y4, LeO (fleet_least_trust.l0 k y0 y1 y2 y3 y4) (fleet_least_trust.l0 (k + 1) y0 y1 y2 y3 y4))
  | 0 => fun _ _ _ _ _ r h => by simp [fleet_least_trust.l0] at h
  | k + 1 => by
    have ih0 := fleet_least_trust.mono_l k
    · intro y0 y1 y2 y3 y4
      unfold fleet_least_trust.l0
      repeat' first
      | (with_reducible exact ih0 _ _ _ _ _)
      | (with_reducible exact LeO.refl _)
      | (with_reducible exact LeO.none _)
      | (with_reducible refine LeO.ite ?_ ?_)
      | (with_reducible refine LeO.bind ?_ (fun _ => ?_))
      | exact ih0 _ _ _ _ _
      | exact LeO.none _
      | refine LeO.ite ?_ ?_
      | refine LeO.bind ?_ (fun _ => ?_)
theorem fleet_least_trust.mono : ∀ a0 a1 k, LeO (fleet_least_trust.f k a0 a1) (fleet_least_trust.f (k + 1) a0 a1) := by
  intro a0 a1 k
  have ih0 := fleet_least_trust.mono_l k
  unfold fleet_least_trust.f
  repeat' first
      | (with_reducible exact ih0 _ _ _ _ _)
      | (with_reducible exact LeO.refl _)
      | (with_reducible exact LeO.none _)
      | (with_reducible refine LeO.ite ?_ ?_)
      | (with_reducible refine LeO.bind ?_ (fun _ => ?_))
      | exact ih0 _ _ _ _ _
      | exact LeO.none _
      | refine LeO.ite ?_ ?_
      | refine LeO.bind ?_ (fun _ => ?_)
set_option maxHeartbeats 8000000 in
set_option maxRecDepth 100000 in
theorem fleet_least_trust.calls (k : Nat) (A0 : Option Addr) (c0 : Nat) (l0 : List (S54)) (A1 : Option Addr) (c1 : Nat) (l1 : List Int)  (r : Int) (w : World) (hr0 : Kd.C k54 w A0 l0.length l0) (hc0 : l0.length ≤ c0) (hr1 : Kd.C (Kd.int .i64) w A1 l1.length l1) (hc1 : l1.length ≤ c1) (h : fleet_least_trust.f k l0 l1 = some r) :
    Calls Try.prog 47 #[.slice A0 l0.length c0, .slice A1 l1.length c1, .func (.func 48) #[] #[]] w fun e w' => e = .returned (.int .i64 r) ∧ Below w.heap.size w w' := by
 have hu54 := Try.underlying54
 have HR0 := Aside0.mk hr0
 have HC0 := Aside0.mk hc0
 clear hr0 hc0
 have HR1 := Aside0.mk hr1
 have HC1 := Aside0.mk hc1
 clear hr1 hc1
 have HB := Aside0.mk (Below.refl w.heap.size w)
 have H : (if 0 < (l1.length : Int) then (if 0 ≤ (rd l1 0) then (if (rd l1 0) < (l0.length : Int) then ((fleet_trust.f ((rd_T54 l0 (rd l1 0)).f0) ((rd_T54 l0 (rd l1 0)).f1) ((rd_T54 l0 (rd l1 0)).f2) ((rd_T54 l0 (rd l1 0)).f3) ((rd_T54 l0 (rd l1 0)).f4) ((rd_T54 l0 (rd l1 0)).f5) ((rd_T54 l0 (rd l1 0)).f6) ((rd_T54 l0 (rd l1 0)).f7) ((rd_T54 l0 (rd l1 0)).f8) ((rd_T54 l0 (rd l1 0)).f9) ((rd_T54 l0 (rd l1 0)).f10) ((rd_T54 l0 (rd l1 0)).f11) ((rd_T54 l0 (rd l1 0)).f12) ((rd_T54 l0 (rd l1 0)).f13)).bind fun t476 => (fleet_least_trust.l0 k l0 t476 l1 (l1.length : Int) 0)) else (none)) else (none)) else (none)) = some r := h
 clear h
 by_cases c4 : 0 < (l1.length : Int)
 ·rw [if_pos c4] at H
  have c4b0 : decide (0 < (l1.length : Int)) = true := decide_eq_true c4
  have c4b1 : decide (0 < l1.length) = true := decide_eq_true (by omega)
  clear c4
  by_cases c5 : 0 ≤ (rd l1 0)
  ·rw [if_pos c5] at H
   have c5b0 : decide (0 ≤ (rd l1 0)) = true := decide_eq_true c5
   clear c5
   by_cases c6 : (rd l1 0) < (l0.length : Int)
   ·rw [if_pos c6] at H
    have c6b0 : decide ((rd l1 0) < (l0.length : Int)) = true := decide_eq_true c6
    clear c6
    replace H := Option.bind_eq_some_iff.mp H
    obtain ⟨t476, A70, H⟩ := H
    replace H : (fleet_least_trust.l0 k l0 t476 l1 (l1.length : Int) 0) = some r := H
    have A7 := Aside0.mk A70
    clear A70
    have H' := Aside0.mk H
    clear H
    have p474 : 0 ≤ (0 : Int) := (by omega)
    have q474 : 0 < (l1.length : Int) := of_decide_eq_true tW_
    obtain ⟨ad474, e474, hx474_0⟩ := Kd.at_int HR1.out 0 p474 q474
    cases e474
    have qi474 : (0 < l1.length) = True := eq_true (by omega)
    (try rw [show ((0 : Int)).toNat = 0 from rfl] at hx474_0)
    (try rw [Addr.add_zero'] at hx474_0)
    replace p474 := eq_true p474
    replace q474 := eq_true q474
    have p475 : 0 ≤ ((rd l1 0) : Int) := of_decide_eq_true tW_
    have q475 : (rd l1 0) < (l0.length : Int) := of_decide_eq_true tW_
    obtain ⟨ad475, e475, hx475_0, hx475_1, hx475_2, hx475_3, hx475_4, hx475_5, hx475_6, hx475_7, hx475_8, hx475_9, hx475_10, hx475_11, hx475_12, hx475_13⟩ := at_T54 HR0.out (rd l1 0) p475 q475
    cases e475
    replace p475 := eq_true p475
    replace q475 := eq_true q475
    go_enter Try.func47, Try.ntmps47
    go_wp2_with (first | (go_at_call 48; (with_reducible refine (fleet_trust.calls ((rd_T54 l0 (rd l1 0)).f0) ((rd_T54 l0 (rd l1 0)).f1) ((rd_T54 l0 (rd l1 0)).f2) ((rd_T54 l0 (rd l1 0)).f3) ((rd_T54 l0 (rd l1 0)).f4) ((rd_T54 l0 (rd l1 0)).f5) ((rd_T54 l0 (rd l1 0)).f6) ((rd_T54 l0 (rd l1 0)).f7) ((rd_T54 l0 (rd l1 0)).f8) ((rd_T54 l0 (rd l1 0)).f9) ((rd_T54 l0 (rd l1 0)).f10) ((rd_T54 l0 (rd l1 0)).f11) ((rd_T54 l0 (rd l1 0)).f12) ((rd_T54 l0 (rd l1 0)).f13) t476 _ A7.out).mono ?_); rintro e w8 ⟨rfl, hb⟩; have n0_ := Aside0.mk (below_step (dL_ HB) hb); clear HB; have HB := n0_; clear n0_; (try clear hb); (try clear hb2); (try clear hk); (try clear hi)))
    go_loopg [7, 20] k (fun kq v7 v20 w' => ∃ (x7_1 : Int) (x20_1 : Int), v7 = .int .i64 x7_1 ∧ v20 = .int .i64 x20_1 ∧ Aside0 (fleet_least_trust.l0 kq l0 x7_1 l1 (l1.length : Int) x20_1 = some r) ∧ Aside0 (kq ≤ k) ∧ Aside0 (Below w.heap.size w w'))
    case atStart => exact ⟨(t476), (0), tS_, tS_, H', ⟨Nat.le_refl _⟩, ⟨dL_ HB⟩⟩
    case round =>
     clear H'
     try clear c1
     try clear c4
     try clear c4b0
     try clear c4b1
     try clear c5
     try clear c5b0
     try clear c6
     try clear c6b0
     try clear hx474_0
     try clear hx475_0
     try clear hx475_1
     try clear hx475_10
     try clear hx475_11
     try clear hx475_12
     try clear hx475_13
     try clear hx475_2
     try clear hx475_3
     try clear hx475_4
     try clear hx475_5
     try clear hx475_6
     try clear hx475_7
     try clear hx475_8
     try clear hx475_9
     try clear p474
     try clear p475
     try clear q474
     try clear q475
     obtain ⟨x7_1, x20_1, rfl, rfl, HA, HK1, HB⟩ := hrel
     cases gk with
     | zero => exact absurd HA.out (by simp [fleet_least_trust.l0])
     | succ k1 =>
      have H := HA.out
      clear HA
      simp only [fleet_least_trust.l0] at H
      by_cases c9 : x20_1 < (l1.length : Int)
      ·rw [if_pos c9] at H
       have c9b0 : decide (x20_1 < (l1.length : Int)) = true := decide_eq_true c9
       clear c9
       by_cases c10 : 0 ≤ x20_1
       ·rw [if_pos c10] at H
        have c10b0 : decide (0 ≤ x20_1) = true := decide_eq_true c10
        clear c10
        by_cases c11 : x20_1 < (l1.length : Int)
        ·rw [if_pos c11] at H
         have c11b0 : decide (x20_1 < (l1.length : Int)) = true := decide_eq_true c11
         clear c11
         by_cases c12 : 0 ≤ (rd l1 x20_1)
         ·rw [if_pos c12] at H
          have c12b0 : decide (0 ≤ (rd l1 x20_1)) = true := decide_eq_true c12
          clear c12
          by_cases c13 : (rd l1 x20_1) < (l0.length : Int)
          ·rw [if_pos c13] at H
           have c13b0 : decide ((rd l1 x20_1) < (l0.length : Int)) = true := decide_eq_true c13
           clear c13
           replace H := Option.bind_eq_some_iff.mp H
           obtain ⟨t479, A140, H⟩ := H
           replace H : (fleet_least_trust.l0 k1 l0 (mn x7_1 t479) l1 (l1.length : Int) (wrap64 (x20_1 + 1))) = some r := H
           have A14 := Aside0.mk A140
           clear A140
           obtain ⟨ji15, hji15⟩ : ∃ j_ : Int, (mn x7_1 t479) = j_ := ⟨_, rfl⟩
           replace H : (fleet_least_trust.l0 k1 l0 ji15 l1 (l1.length : Int) (wrap64 (x20_1 + 1))) = some r := by first | (rw [hji15] at H; exact H) | (simp only [hji15] at H ⊢; exact H)
           (try rw [hji15] at A14)
           have hji15_ : (if t479 < x7_1 then t479 else x7_1) = ji15 := hji15
           have H' := Aside0.mk H
           clear H
           have p477 : 0 ≤ (x20_1 : Int) := of_decide_eq_true tW_
           have q477 : x20_1 < (l1.length : Int) := of_decide_eq_true tW_
           obtain ⟨ad477, e477, hx477_0⟩ := Kd.at_int HR1.out x20_1 p477 q477
           obtain rfl : ad474 = ad477 := (by injection e477)
           replace hx477_0 := bc_ HB hx477_0
           replace p477 := eq_true p477
           replace q477 := eq_true q477
           have p478 : 0 ≤ ((rd l1 x20_1) : Int) := of_decide_eq_true tW_
           have q478 : (rd l1 x20_1) < (l0.length : Int) := of_decide_eq_true tW_
           obtain ⟨ad478, e478, hx478_0, hx478_1, hx478_2, hx478_3, hx478_4, hx478_5, hx478_6, hx478_7, hx478_8, hx478_9, hx478_10, hx478_11, hx478_12, hx478_13⟩ := at_T54 HR0.out (rd l1 x20_1) p478 q478
           obtain rfl : ad475 = ad478 := (by injection e478)
           replace hx478_0 := bc_ HB hx478_0
           replace hx478_1 := bc_ HB hx478_1
           replace hx478_2 := bc_ HB hx478_2
           replace hx478_3 := bc_ HB hx478_3
           replace hx478_4 := bc_ HB hx478_4
           replace hx478_5 := bc_ HB hx478_5
           replace hx478_6 := bc_ HB hx478_6
           replace hx478_7 := bc_ HB hx478_7
           replace hx478_8 := bc_ HB hx478_8
           replace hx478_9 := bc_ HB hx478_9
           replace hx478_10 := bc_ HB hx478_10
           replace hx478_11 := bc_ HB hx478_11
           replace hx478_12 := bc_ HB hx478_12
           replace hx478_13 := bc_ HB hx478_13
           replace p478 := eq_true p478
           replace q478 := eq_true q478
           go_wp2_with (first | (go_at_call 48; (with_reducible refine (fleet_trust.calls ((rd_T54 l0 (rd l1 x20_1)).f0) ((rd_T54 l0 (rd l1 x20_1)).f1) ((rd_T54 l0 (rd l1 x20_1)).f2) ((rd_T54 l0 (rd l1 x20_1)).f3) ((rd_T54 l0 (rd l1 x20_1)).f4) ((rd_T54 l0 (rd l1 x20_1)).f5) ((rd_T54 l0 (rd l1 x20_1)).f6) ((rd_T54 l0 (rd l1 x20_1)).f7) ((rd_T54 l0 (rd l1 x20_1)).f8) ((rd_T54 l0 (rd l1 x20_1)).f9) ((rd_T54 l0 (rd l1 x20_1)).f10) ((rd_T54 l0 (rd l1 x20_1)).f11) ((rd_T54 l0 (rd l1 x20_1)).f12) ((rd_T54 l0 (rd l1 x20_1)).f13) t479 _ A14.out).mono ?_); rintro e w16 ⟨rfl, hb⟩; have n0_ := Aside0.mk (below_step (dL_ HB) hb); clear HB; have HB := n0_; clear n0_; (try clear hb); (try clear hb2); (try clear hk); (try clear hi)))
           go_roundg k1
           case measure => have := HK1.out; omega
           case rel => exact ⟨(ji15), (wrap64 (x20_1 + 1)), (by first | rfl | (simp; done) | (simp only [← hji15]; rw [shl_one_small _ (by assumption) (by omega)]; done) | (simp only [← hji15] <;> (first | rfl | simp)) | (simp [*]; done) | (refine congrArg (Value.int .i64) ?_; unfold wrap64; omega) | (simp only [shl_one_small _ (by assumption) (by omega)]; done) | (simp [*]; rw [shl_one_small _ (by assumption) (by omega)]; done)), tS_, H', ⟨by have := HK1.out; omega⟩, ⟨dL_ HB⟩⟩
          ·rw [if_neg c13] at H
           exact absurd H (by simp)
         ·rw [if_neg c12] at H
          exact absurd H (by simp)
        ·rw [if_neg c11] at H
         exact absurd H (by simp)
       ·rw [if_neg c10] at H
        exact absurd H (by simp)
      ·rw [if_neg c9] at H
       have c9b0 : decide (x20_1 < (l1.length : Int)) = false := decide_eq_false c9
       clear c9
       obtain rfl := Option.some.inj H
       go_wp2
       go_ret
       exact ⟨tE_, dL_ HB⟩
   ·rw [if_neg c6] at H
    exact absurd H (by simp)
  ·rw [if_neg c5] at H
   exact absurd H (by simp)
 ·rw [if_neg c4] at H
  exact absurd H (by simp)

end Go.Proofs.Ytgnahbjpockdmaa.Q
namespace Go.Proofs.Ytgnahbjpockdmaa.Q
open Go.RowKit Go.Proofs.YtgnahbjpockdmaaPrs Go.Proofs.YtgnahbjpockdmaaOwn Go.Proofs.YtgnahbjpockdmaaW.PrintWords Go.Proofs.YtgnahbjpockdmaaW.PrintLast Go.Proofs.YtgnahbjpockdmaaW.PrintMore
attribute [local go_sem] max2_int min2_int max_two min_two max_three min_three max_four min_four   -- for this text's walks alone
set_option linter.unusedVariables false
set_option linter.unusedSimpArgs false

/-! ### hinterlandref14_least: function 51 -/
def hinterlandref14_least.l0 : Nat → List (S54) → Int → Int → List Int → Int → Int → Option (Int × Int)
  | 0, _, _, _, _, _, _ => none
  | k + 1, x0, x6, x7, x10, x11, x12 => if x12 < x11 then (if 0 ≤ x12 then (if x12 < (x10.length : Int) then (if 0 ≤ (rd x10 x12) then (if (rd x10 x12) < (x0.length : Int) then (hinterlandref14_least.l0 k x0 (mn x6 ((rd_T54 x0 (rd x10 x12)).f12)) (mn x7 ((rd_T54 x0 (rd x10 x12)).f11)) x10 x11 (wrap64 (x12 + 1))) else (none)) else (none)) else (none)) else (none)) else (some (x6, x7))
def hinterlandref14_least.f (k : Nat) (l0 : List (S54)) (l1 : List Int) : Option (Int × Int) := hinterlandref14_least.l0 k l0 1000 100 l1 (l1.length : Int) 0
theorem hinterlandref14_least.mono_l : ∀ k, (∀ y0 y1 y2 y3 y4 y5, LeO (hinterlandref14_least.l0 k y0 y1 y2 y3 y4 y5) (hinterlandref14_least.l0 (k + 1) y0 y1 y2 y3 y4 y5))
  | 0 => fun _ _ _ _ _ _ r h => by simp [hinterlandref14_least.l0] at h
  | k + 1 => by
    have ih0 := hinterlandref14_least.mono_l k
    · intro y0 y1 y2 y3 y4 y5
      unfold hinterlandref14_least.l0
      repeat' first
      | (with_reducible exact ih0 _ _ _ _ _ _)
      | (with_reducible exact LeO.refl _)
      | (with_reducible exact LeO.none _)
      | (with_reducible refine LeO.ite ?_ ?_)
      | (with_reducible refine LeO.bind ?_ (fun _ => ?_))
      | exact ih0 _ _ _ _ _ _
      | exact LeO.none _
      | refine LeO.ite ?_ ?_
      | refine LeO.bind ?_ (fun _ => ?_)
theorem hinterlandref14_least.mono : ∀ a0 a1 k, LeO (hinterlandref14_least.f k a0 a1) (hinterlandref14_least.f (k + 1) a0 a1) := by
  intro a0 a1 k
  have ih0 := hinterlandref14_least.mono_l k
  unfold hinterlandref14_least.f
  repeat' first
      | (with_reducible exact ih0 _ _ _ _ _ _)
      | (with_reducible exact LeO.refl _)
      | (with_reducible exact LeO.none _)
      | (with_reducible refine LeO.ite ?_ ?_)
      | (with_reducible refine LeO.bind ?_ (fun _ => ?_))
      | exact ih0 _ _ _ _ _ _
      | exact LeO.none _
      | refine LeO.ite ?_ ?_
      | refine LeO.bind ?_ (fun _ => ?_)
set_option maxHeartbeats 8000000 in
set_option maxRecDepth 100000 in
theorem hinterlandref14_least.calls (k : Nat) (A0 : Option Addr) (c0 : Nat) (l0 : List (S54)) (A1 : Option Addr) (c1 : Nat) (l1 : List Int) (r1 : Int) (r2 : Int) (w : World) (hr0 : Kd.C k54 w A0 l0.length l0) (hc0 : l0.length ≤ c0) (hr1 : Kd.C (Kd.int .i64) w A1 l1.length l1) (hc1 : l1.length ≤ c1) (h : hinterlandref14_least.f k l0 l1 = some (r1, r2)) :
    Calls Try.prog 51 #[.slice A0 l0.length c0, .slice A1 l1.length c1] w fun e w' => e = .returned (.tuple #[.int .i64 r1, .int .i64 r2]) ∧ Below w.heap.size w w' := by
 have HR0 := Aside0.mk hr0
 have HC0 := Aside0.mk hc0
 clear hr0 hc0
 have HR1 := Aside0.mk hr1
 have HC1 := Aside0.mk hc1
 clear hr1 hc1
 have HB := Aside0.mk (Below.refl w.heap.size w)
 have H : (hinterlandref14_least.l0 k l0 1000 100 l1 (l1.length : Int) 0) = some (r1, r2) := h
 clear h
 have H' := Aside0.mk H
 clear H
 go_enter Try.func51, Try.ntmps51
 go_wp2
 repeat (go_quiet (fail); try go_wp2)
 go_loopg [6, 7, 12] k (fun kq v6 v7 v12 w' => ∃ (x6_1 : Int) (x7_1 : Int) (x12_1 : Int), v6 = .int .i64 x6_1 ∧ v7 = .int .i64 x7_1 ∧ v12 = .int .i64 x12_1 ∧ Aside0 (hinterlandref14_least.l0 kq l0 x6_1 x7_1 l1 (l1.length : Int) x12_1 = some (r1, r2)) ∧ Aside0 (kq ≤ k) ∧ Aside0 (Below w.heap.size w w'))
 case atStart => exact ⟨(1000), (100), (0), tS_, tS_, tS_, H', ⟨Nat.le_refl _⟩, ⟨dL_ HB⟩⟩
 case round =>
  clear H'
  try clear c1
  obtain ⟨x6_1, x7_1, x12_1, rfl, rfl, rfl, HA, HK1, HB⟩ := hrel
  cases gk with
  | zero => exact absurd HA.out (by simp [hinterlandref14_least.l0])
  | succ k1 =>
   have H := HA.out
   clear HA
   simp only [hinterlandref14_least.l0] at H
   by_cases c3 : x12_1 < (l1.length : Int)
   ·rw [if_pos c3] at H
    have c3b0 : decide (x12_1 < (l1.length : Int)) = true := decide_eq_true c3
    clear c3
    by_cases c4 : 0 ≤ x12_1
    ·rw [if_pos c4] at H
     have c4b0 : decide (0 ≤ x12_1) = true := decide_eq_true c4
     clear c4
     by_cases c5 : x12_1 < (l1.length : Int)
     ·rw [if_pos c5] at H
      have c5b0 : decide (x12_1 < (l1.length : Int)) = true := decide_eq_true c5
      clear c5
      by_cases c6 : 0 ≤ (rd l1 x12_1)
      ·rw [if_pos c6] at H
       have c6b0 : decide (0 ≤ (rd l1 x12_1)) = true := decide_eq_true c6
       clear c6
       by_cases c7 : (rd l1 x12_1) < (l0.length : Int)
       ·rw [if_pos c7] at H
        have c7b0 : decide ((rd l1 x12_1) < (l0.length : Int)) = true := decide_eq_true c7
        clear c7
        obtain ⟨ji8, hji8⟩ : ∃ j_ : Int, (mn x6_1 ((rd_T54 l0 (rd l1 x12_1)).f12)) = j_ := ⟨_, rfl⟩
        replace H : (hinterlandref14_least.l0 k1 l0 ji8 (mn x7_1 ((rd_T54 l0 (rd l1 x12_1)).f11)) l1 (l1.length : Int) (wrap64 (x12_1 + 1))) = some (r1, r2) := by first | (rw [hji8] at H; exact H) | (simp only [hji8] at H ⊢; exact H)
        have hji8_ : (if ((rd_T54 l0 (rd l1 x12_1)).f12) < x6_1 then ((rd_T54 l0 (rd l1 x12_1)).f12) else x6_1) = ji8 := hji8
        obtain ⟨ji9, hji9⟩ : ∃ j_ : Int, (mn x7_1 ((rd_T54 l0 (rd l1 x12_1)).f11)) = j_ := ⟨_, rfl⟩
        replace H : (hinterlandref14_least.l0 k1 l0 ji8 ji9 l1 (l1.length : Int) (wrap64 (x12_1 + 1))) = some (r1, r2) := by first | (rw [hji9] at H; exact H) | (simp only [hji9] at H ⊢; exact H)
        have hji9_ : (if ((rd_T54 l0 (rd l1 x12_1)).f11) < x7_1 then ((rd_T54 l0 (rd l1 x12_1)).f11) else x7_1) = ji9 := hji9
        have H' := Aside0.mk H
        clear H
        have p510 : 0 ≤ (x12_1 : Int) := of_decide_eq_true tW_
        have q510 : x12_1 < (l1.length : Int) := of_decide_eq_true tW_
        obtain ⟨ad510, e510, hx510_0⟩ := Kd.at_int HR1.out x12_1 p510 q510
        cases e510
        replace hx510_0 := bc_ HB hx510_0
        replace p510 := eq_true p510
        replace q510 := eq_true q510
        have p511 : 0 ≤ ((rd l1 x12_1) : Int) := of_decide_eq_true tW_
        have q511 : (rd l1 x12_1) < (l0.length : Int) := of_decide_eq_true tW_
        obtain ⟨ad511, e511, hx511_0, hx511_1, hx511_2, hx511_3, hx511_4, hx511_5, hx511_6, hx511_7, hx511_8, hx511_9, hx511_10, hx511_11, hx511_12, hx511_13⟩ := at_T54 HR0.out (rd l1 x12_1) p511 q511
        cases e511
        replace hx511_0 := bc_ HB hx511_0
        replace hx511_1 := bc_ HB hx511_1
        replace hx511_2 := bc_ HB hx511_2
        replace hx511_3 := bc_ HB hx511_3
        replace hx511_4 := bc_ HB hx511_4
        replace hx511_5 := bc_ HB hx511_5
        replace hx511_6 := bc_ HB hx511_6
        replace hx511_7 := bc_ HB hx511_7
        replace hx511_8 := bc_ HB hx511_8
        replace hx511_9 := bc_ HB hx511_9
        replace hx511_10 := bc_ HB hx511_10
        replace hx511_11 := bc_ HB hx511_11
        replace hx511_12 := bc_ HB hx511_12
        replace hx511_13 := bc_ HB hx511_13
        replace p511 := eq_true p511
        replace q511 := eq_true q511
        have p512 : 0 ≤ ((rd l1 x12_1) : Int) := of_decide_eq_true tW_
        have q512 : (rd l1 x12_1) < (l0.length : Int) := of_decide_eq_true tW_
        obtain ⟨ad512, e512, hx512_0, hx512_1, hx512_2, hx512_3, hx512_4, hx512_5, hx512_6, hx512_7, hx512_8, hx512_9, hx512_10, hx512_11, hx512_12, hx512_13⟩ := at_T54 HR0.out (rd l1 x12_1) p512 q512
        obtain rfl : ad511 = ad512 := (by injection e512)
        replace hx512_0 := bc_ HB hx512_0
        replace hx512_1 := bc_ HB hx512_1
        replace hx512_2 := bc_ HB hx512_2
        replace hx512_3 := bc_ HB hx512_3
        replace hx512_4 := bc_ HB hx512_4
        replace hx512_5 := bc_ HB hx512_5
        replace hx512_6 := bc_ HB hx512_6
        replace hx512_7 := bc_ HB hx512_7
        replace hx512_8 := bc_ HB hx512_8
        replace hx512_9 := bc_ HB hx512_9
        replace hx512_10 := bc_ HB hx512_10
        replace hx512_11 := bc_ HB hx512_11
        replace hx512_12 := bc_ HB hx512_12
        replace hx512_13 := bc_ HB hx512_13
        replace p512 := eq_true p512
        replace q512 := eq_true q512
        go_wp2
        repeat (go_quiet (fail); try go_wp2)
        go_roundg k1
        case measure => have := HK1.out; omega
        case rel => exact ⟨(ji8), (ji9), (wrap64 (x12_1 + 1)), (by first | rfl | (simp; done) | (simp only [← hji8]; rw [shl_one_small _ (by assumption) (by omega)]; done) | (simp only [← hji8] <;> (first | rfl | simp)) | (simp [*]; done) | (refine congrArg (Value.int .i64) ?_; unfold wrap64; omega) | (simp only [shl_one_small _ (by assumption) (by omega)]; done) | (simp [*]; rw [shl_one_small _ (by assumption) (by omega)]; done)), (by first | rfl | (simp; done) | (simp only [← hji9]; rw [shl_one_small _ (by assumption) (by omega)]; done) | (simp only [← hji9] <;> (first | rfl | simp)) | (simp [*]; done) | (refine congrArg (Value.int .i64) ?_; unfold wrap64; omega) | (simp only [shl_one_small _ (by assumption) (by omega)]; done) | (simp [*]; rw [shl_one_small _ (by assumption) (by omega)]; done)), tS_, H', ⟨by have := HK1.out; omega⟩, ⟨dL_ HB⟩⟩
       ·rw [if_neg c7] at H
        exact absurd H (by simp)
      ·rw [if_neg c6] at H
       exact absurd H (by simp)
     ·rw [if_neg c5] at H
      exact absurd H (by simp)
    ·rw [if_neg c4] at H
     exact absurd H (by simp)
   ·rw [if_neg c3] at H
    have c3b0 : decide (x12_1 < (l1.length : Int)) = false := decide_eq_false c3
    clear c3
    simp only [Option.some.injEq, Prod.mk.injEq] at H
    obtain ⟨rfl, rfl⟩ := H
    go_wp2
    repeat (go_quiet (fail); try go_wp2)
    go_ret2
    exact ⟨tE_, dL_ HB⟩

end Go.Proofs.Ytgnahbjpockdmaa.Q
