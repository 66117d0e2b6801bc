-- PRINTED by print.py (a twelfth state) out of the translation. Not trusted: Lean checks it.
import Derived.Test.YtchflcnegpnkkaaPrs
import Derived.Test.YtchflcnegpnkkaaQ0
import Derived.Test.YtchflcnegpnkkaaQ14
namespace Go.Proofs.Ytchflcnegpnkkaa.Q
open Go.RowKit Go.Proofs.YtchflcnegpnkkaaPrs Go.Proofs.YtchflcnegpnkkaaOwn Go.Proofs.YtchflcnegpnkkaaW.PrintWords Go.Proofs.YtchflcnegpnkkaaW.PrintLast Go.Proofs.YtchflcnegpnkkaaW.PrintMore
attribute [local go_sem] max2_int min2_int max_two min_two max_three min_three max_four min_four   -- for this text's walks alone
set_option linter.unusedVariables false
set_option linter.unusedSimpArgs false

/-! ### hinterlandref02_held: function 48 -/
mutual
def hinterlandref02_held.l0 : Nat → Int → List Int → Int → Int → Int → Int → List Int → Option (Bool)
  | 0, _, _, _, _, _, _, _ => none
  | k + 1, x1, x11, x12, x13, x198000, x198001, x198002 => if x13 < x12 then (if 0 ≤ x13 then (if x13 < (x11.length : Int) then ((hinterlandref02_Is.f x198000 x198001 x198002 (rd x11 x13)).bind fun t199 => (if t199 = true then ((hinterlandref02_Places.f x198000 x198001 x198002 (rd x11 x13)).bind fun bt200 => (hinterlandref02_held.l1 k x1 x11 x12 x13 0 x198000 x198001 x198002 bt200.1 bt200.2.1 bt200.2.2.1 bt200.2.2.2)) else (hinterlandref02_held.l0 k x1 x11 x12 (wrap64 (x13 + 1)) x198000 x198001 x198002))) else (none)) else (none)) else (some false)
def hinterlandref02_held.l1 : Nat → Int → List Int → Int → Int → Int → Int → Int → List Int → Int → Int → Int → Int → Option (Bool)
  | 0, _, _, _, _, _, _, _, _, _, _, _, _ => none
  | k + 1, x1, x11, x12, x13, x24, x198000, x198001, x198002, x100023000, x100023001, x100023002, x100023003 => if x24 < 4 then (if 0 ≤ x24 then (if (rd [x100023000, x100023001, x100023002, x100023003] x24) = x1 then (some true) else (hinterlandref02_held.l1 k x1 x11 x12 x13 (wrap64 (x24 + 1)) x198000 x198001 x198002 x100023000 x100023001 x100023002 x100023003)) else (none)) else (hinterlandref02_held.l0 k x1 x11 x12 (wrap64 (x13 + 1)) x198000 x198001 x198002)
end
def hinterlandref02_held.f (k : Nat) (a0_0 : Int) (a0_1 : Int) (l0_2 : List Int) (a1 : Int) (l2 : List Int) : Option (Bool) := hinterlandref02_held.l0 k a1 l2 (l2.length : Int) 0 a0_0 a0_1 l0_2
theorem hinterlandref02_held.mono_l : ∀ k, (∀ y0 y1 y2 y3 y4 y5 y6, LeO (hinterlandref02_held.l0 k y0 y1 y2 y3 y4 y5 y6) (hinterlandref02_held.l0 (k + 1) y0 y1 y2 y3 y4 y5 y6)) ∧ (∀ y0 y1 y2 y3 y4 y5 y6 y7 y8 y9 y10 y11, LeO (hinterlandref02_held.l1 k y0 y1 y2 y3 y4 y5 y6 y7 y8 y9 y10 y11) (hinterlandref02_held.l1 (k + 1) y0 y1 y2 y3 y4 y5 y6 y7 y8 y9 y10 y11))
  | 0 => ⟨fun _ _ _ _ _ _ _ r h => by simp [hinterlandref02_held.l0] at h, fun _ _ _ _ _ _ _ _ _ _ _ _ r h => by simp [hinterlandref02_held.l1] at h⟩
  | k + 1 => by
    obtain ⟨ih0, ih1⟩ := hinterlandref02_held.mono_l k
    refine ⟨?_, ?_⟩
    · intro y0 y1 y2 y3 y4 y5 y6
      unfold hinterlandref02_held.l0
      repeat' first
      | (with_reducible first | exact ih0 _ _ _ _ _ _ _ | exact ih1 _ _ _ _ _ _ _ _ _ _ _ _ | exact LeO.refl _ | exact LeO.none _ | refine LeO.ite ?_ ?_ | refine LeO.bind ?_ (fun _ => ?_))
      | exact ih0 _ _ _ _ _ _ _
      | exact ih1 _ _ _ _ _ _ _ _ _ _ _ _
      | exact LeO.none _
      | refine LeO.ite ?_ ?_
      | refine LeO.bind ?_ (fun _ => ?_)
    · intro y0 y1 y2 y3 y4 y5 y6 y7 y8 y9 y10 y11
      unfold hinterlandref02_held.l1
      repeat' first
      | (with_reducible first | exact ih0 _ _ _ _ _ _ _ | exact ih1 _ _ _ _ _ _ _ _ _ _ _ _ | exact LeO.refl _ | exact LeO.none _ | refine LeO.ite ?_ ?_ | refine LeO.bind ?_ (fun _ => ?_))
      | exact ih0 _ _ _ _ _ _ _
      | exact ih1 _ _ _ _ _ _ _ _ _ _ _ _
      | exact LeO.none _
      | refine LeO.ite ?_ ?_
      | refine LeO.bind ?_ (fun _ => ?_)
theorem hinterlandref02_held.mono : ∀ a0 a1 a2 a3 a4 k, LeO (hinterlandref02_held.f k a0 a1 a2 a3 a4) (hinterlandref02_held.f (k + 1) a0 a1 a2 a3 a4) := by
  intro a0 a1 a2 a3 a4 k
  obtain ⟨ih0, ih1⟩ := hinterlandref02_held.mono_l k
  unfold hinterlandref02_held.f
  repeat' first
      | (with_reducible first | exact ih0 _ _ _ _ _ _ _ | exact ih1 _ _ _ _ _ _ _ _ _ _ _ _ | exact LeO.refl _ | exact LeO.none _ | refine LeO.ite ?_ ?_ | refine LeO.bind ?_ (fun _ => ?_))
      | exact ih0 _ _ _ _ _ _ _
      | exact ih1 _ _ _ _ _ _ _ _ _ _ _ _
      | exact LeO.none _
      | refine LeO.ite ?_ ?_
      | refine LeO.bind ?_ (fun _ => ?_)
set_option maxHeartbeats 8000000 in
set_option maxRecDepth 100000 in
theorem hinterlandref02_held.calls (k : Nat) (a0_0 : Int) (a0_1 : Int) (A0_2 : Option Addr) (c0_2 : Nat) (l0_2 : List Int) (a1 : Int) (A2 : Option Addr) (c2 : Nat) (l2 : List Int) (r : Bool) (w : World) (hr0_2 : Kd.C (Kd.int .i64) w A0_2 l0_2.length l0_2) (hc0_2 : l0_2.length ≤ c0_2) (hr2 : Kd.C (Kd.int .i64) w A2 l2.length l2) (hc2 : l2.length ≤ c2) (h : hinterlandref02_held.f k a0_0 a0_1 l0_2 a1 l2 = some r) :
    Calls Try.prog 48 #[.agg #[.int .i64 a0_0, .int .i64 a0_1, .slice A0_2 l0_2.length c0_2], .int .i64 a1, .slice A2 l2.length c2] w fun e w' => e = .returned (.bool r) ∧ Below w.heap.size w w' := by
 have hu24 := Try.underlying24
 have HR0_2 := Aside0.mk hr0_2
 have HC0_2 := Aside0.mk hc0_2
 clear hr0_2 hc0_2
 have HR2 := Aside0.mk hr2
 have HC2 := Aside0.mk hc2
 clear hr2 hc2
 have HB := Aside0.mk (Below.refl w.heap.size w)
 have H : (hinterlandref02_held.l0 k a1 l2 (l2.length : Int) 0 a0_0 a0_1 l0_2) = some r := h
 clear h
 have H' := Aside0.mk H
 clear H
 go_enter Try.func48, Try.ntmps48
 go_wp2_with (first | ((with_reducible refine gate_dst (N := 3) rfl ?_); refine box_event ?hg (N := 3) ?hd (cs := #[.int .i64 a0_0, .int .i64 a0_1, .slice A0_2 l0_2.length c0_2]) (t := 24) ?hr ?_; (case hd => rfl); (case hg => rfl); (case hr => first | (go_simp; done) | (go_simp; rfl)); intro gb197 hg w4 hbox hb; have BK197 := Aside0.mk (hbox); have GW197 := Aside0.mk ((dS_ hg (dL_ HB) : w.heap.size ≤ gb197)); have GE197 := Aside0.mk ((dS_ hg (dL_ HB) : w.heap.size ≤ gb197)); replace HB := Aside0.mk (below_step (dL_ HB) hb); clear hb hbox hg))
 go_loopg [13] k (fun kq v13 w' => ∃ (x13_1 : Int), v13 = .int .i64 x13_1 ∧ Aside0 (hinterlandref02_held.l0 kq a1 l2 (l2.length : Int) x13_1 a0_0 a0_1 l0_2 = some r) ∧ Aside0 (kq ≤ k) ∧ Aside0 (w'.heap[gb197]? = some (.cells #[.int .i64 a0_0, .int .i64 a0_1, (.slice A0_2 l0_2.length c0_2)] 24 (0, 0))) ∧ Aside0 (Below w.heap.size w w'))
 case atStart => exact ⟨(0), tS_, H', ⟨Nat.le_refl _⟩, ⟨dB_ BK197⟩, ⟨dL1_ HB GE197⟩⟩
 case round =>
  clear H'
  try clear c2
  obtain ⟨x13_1, rfl, HA, HK1, BK197, HB⟩ := hrel
  cases gk with
  | zero => exact absurd HA.out (by simp [hinterlandref02_held.l0])
  | succ k1 =>
   have H := HA.out
   clear HA
   simp only [hinterlandref02_held.l0] at H
   by_cases c5 : x13_1 < (l2.length : Int)
   ·rw [if_pos c5] at H
    have c5b0 : decide (x13_1 < (l2.length : Int)) = true := decide_eq_true c5
    clear c5
    by_cases c6 : 0 ≤ x13_1
    ·rw [if_pos c6] at H
     have c6b0 : decide (0 ≤ x13_1) = true := decide_eq_true c6
     clear c6
     by_cases c7 : x13_1 < (l2.length : Int)
     ·rw [if_pos c7] at H
      have c7b0 : decide (x13_1 < (l2.length : Int)) = true := decide_eq_true c7
      clear c7
      replace H := Option.bind_eq_some_iff.mp H
      obtain ⟨t199, A80, H⟩ := H
      replace H : (if t199 = true then ((hinterlandref02_Places.f a0_0 a0_1 l0_2 (rd l2 x13_1)).bind fun bt200 => (hinterlandref02_held.l1 k1 a1 l2 (l2.length : Int) x13_1 0 a0_0 a0_1 l0_2 bt200.1 bt200.2.1 bt200.2.2.1 bt200.2.2.2)) else (hinterlandref02_held.l0 k1 a1 l2 (l2.length : Int) (wrap64 (x13_1 + 1)) a0_0 a0_1 l0_2)) = some r := H
      have A8 := Aside0.mk A80
      clear A80
      by_cases c9 : t199 = true
      ·subst c9
       have H1 : ((hinterlandref02_Places.f a0_0 a0_1 l0_2 (rd l2 x13_1)).bind fun bt200 => (hinterlandref02_held.l1 k1 a1 l2 (l2.length : Int) x13_1 0 a0_0 a0_1 l0_2 bt200.1 bt200.2.1 bt200.2.2.1 bt200.2.2.2)) = some r := by rw [if_pos rfl] at H; exact H
       clear H
       have H := H1
       clear H1
       replace H := Option.bind_eq_some_iff.mp H
       obtain ⟨⟨t200, t201, t202, t203⟩, A100, H⟩ := H
       replace H : (hinterlandref02_held.l1 k1 a1 l2 (l2.length : Int) x13_1 0 a0_0 a0_1 l0_2 t200 t201 t202 t203) = some r := H
       have A10 := Aside0.mk A100
       clear A100
       have H' := Aside0.mk H
       clear H
       have p198 : 0 ≤ (x13_1 : Int) := of_decide_eq_true tW_
       have q198 : x13_1 < (l2.length : Int) := of_decide_eq_true tW_
       obtain ⟨ad198, e198, hx198_0⟩ := Kd.at_int HR2.out x13_1 p198 q198
       cases e198
       replace hx198_0 := bc_ HB hx198_0
       replace p198 := eq_true p198
       replace q198 := eq_true q198
       obtain ⟨hcz11_0, hcz11_1, hcz11_2, hfz11_0, hfz11_1, hfz11_2⟩ := cs3_ BK197.out
       go_wp2_with (first | ((with_reducible refine gate_callee (f := 40) rfl ?_); refine goesL_ (some 19) rfl rfl Try.func40 (by kernel_rfl) rfl #[.agg #[.int .i64 a0_0, .int .i64 a0_1, .slice A0_2 l0_2.length c0_2], .int .i64 (rd l2 x13_1)] rfl tA_ ?_; (with_reducible refine (hinterlandref02_Is.calls a0_0 a0_1 _ _ l0_2 (rd l2 x13_1) true _ ?side1 ?side2 A8.out).mono ?_); (case side1 => exact dC_ HR0_2 HB); (case side2 => exact HC0_2.out); rintro e w12 ⟨rfl, hb⟩; refine ⟨_, rfl, ?_⟩; replace BK197 := Aside0.mk (blk_below (g := gb197) (o := .cells #[.int .i64 a0_0, .int .i64 a0_1, .slice A0_2 l0_2.length c0_2] 24 (0, 0)) (dB_ BK197) hb); replace HB := Aside0.mk (below_step (dL1_ HB GE197) hb); obtain ⟨hcz13_0, hcz13_1, hcz13_2, hfz13_0, hfz13_1, hfz13_2⟩ := cs3_ BK197.out) | ((with_reducible refine gate_callee (f := 49) rfl ?_); refine goesL_ (some 23) rfl rfl Try.func49 (by kernel_rfl) rfl #[.agg #[.int .i64 a0_0, .int .i64 a0_1, .slice A0_2 l0_2.length c0_2], .int .i64 (rd l2 x13_1)] rfl tA_ ?_; (with_reducible refine (hinterlandref02_Places.calls a0_0 a0_1 _ _ l0_2 (rd l2 x13_1) t200 t201 t202 t203 _ ?side1 ?side2 A10.out).mono ?_); (case side1 => exact dC_ HR0_2 HB); (case side2 => exact HC0_2.out); rintro e w14 ⟨rfl, hb⟩; refine ⟨_, rfl, ?_⟩; replace BK197 := Aside0.mk (blk_below (g := gb197) (o := .cells #[.int .i64 a0_0, .int .i64 a0_1, .slice A0_2 l0_2.length c0_2] 24 (0, 0)) (dB_ BK197) hb); replace HB := Aside0.mk (below_step (dL1_ HB GE197) hb)))
       go_loopg [24] k1 (fun kq v24 w' => ∃ (x24_2 : Int), v24 = .int .i64 x24_2 ∧ Aside0 (hinterlandref02_held.l1 kq a1 l2 (l2.length : Int) x13_1 x24_2 a0_0 a0_1 l0_2 t200 t201 t202 t203 = some r) ∧ Aside0 (kq ≤ k1) ∧ Aside0 (w'.heap[gb197]? = some (.cells #[.int .i64 a0_0, .int .i64 a0_1, (.slice A0_2 l0_2.length c0_2)] 24 (0, 0))) ∧ Aside0 (Below w.heap.size w w'))
       case atStart => exact ⟨(0), tS_, H', ⟨Nat.le_refl _⟩, ⟨dB_ BK197⟩, ⟨dL1_ HB GE197⟩⟩
       case round =>
        clear H'
        try clear c2
        try clear c5
        try clear c5b0
        try clear c6
        try clear c6b0
        try clear c7
        try clear c7b0
        try clear c9
        try clear hcz11_0
        try clear hcz11_1
        try clear hcz11_2
        try clear hcz13_0
        try clear hcz13_1
        try clear hcz13_2
        try clear hfz11_0
        try clear hfz11_1
        try clear hfz11_2
        try clear hfz13_0
        try clear hfz13_1
        try clear hfz13_2
        try clear hx198_0
        try clear p198
        try clear q198
        obtain ⟨x24_2, rfl, HA, HK2, BK197, HB⟩ := hrel
        cases gk with
        | zero => exact absurd HA.out (by simp [hinterlandref02_held.l1])
        | succ k2 =>
         have H := HA.out
         clear HA
         simp only [hinterlandref02_held.l1] at H
         by_cases c15 : x24_2 < 4
         ·rw [if_pos c15] at H
          have c15b0 : decide (x24_2 < 4) = true := decide_eq_true c15
          clear c15
          by_cases c16 : 0 ≤ x24_2
          ·rw [if_pos c16] at H
           have c16b0 : decide (0 ≤ x24_2) = true := decide_eq_true c16
           clear c16
           by_cases c17 : (rd [t200, t201, t202, t203] x24_2) = a1
           ·rw [if_pos c17] at H
            have c17b0 : ((rd [t200, t201, t202, t203] x24_2) == a1) = true := beq_iff_eq.mpr c17
            have c17b1 : ((rd [t200, t201, t202, t203] x24_2) != a1) = false := bne_eq_false_iff_eq.mpr c17
            clear c17
            obtain rfl := Option.some.inj H
            have pr18 : 0 ≤ (x24_2 : Int) := of_decide_eq_true tW_
            have qr18 : (x24_2 : Int) < 4 := of_decide_eq_true tW_
            have har18 : ∀ w_ : World, (Instr.index 66 (.agg #[.int .i64 t200, .int .i64 t201, .int .i64 t202, .int .i64 t203]) (.int .i64 x24_2)).run Try.prog w_ = .ok (.int .i64 (rd [t200, t201, t202, t203] x24_2)) w_ := fun w_ => run_arr Try.underlying66 Try.underlying3 rfl (by kernel_rfl) .i64 [t200, t201, t202, t203] rfl x24_2 pr18 qr18 w_
            go_wp2
            go_ret
            exact ⟨tE_, dL1_ HB GE197⟩
           ·rw [if_neg c17] at H
            have c17b0 : ((rd [t200, t201, t202, t203] x24_2) == a1) = false := beq_eq_false_iff_ne.mpr c17
            have c17b1 : ((rd [t200, t201, t202, t203] x24_2) != a1) = true := bne_iff_ne.mpr c17
            have H' := Aside0.mk H
            clear H
            have pr19 : 0 ≤ (x24_2 : Int) := of_decide_eq_true tW_
            have qr19 : (x24_2 : Int) < 4 := of_decide_eq_true tW_
            have har19 : ∀ w_ : World, (Instr.index 66 (.agg #[.int .i64 t200, .int .i64 t201, .int .i64 t202, .int .i64 t203]) (.int .i64 x24_2)).run Try.prog w_ = .ok (.int .i64 (rd [t200, t201, t202, t203] x24_2)) w_ := fun w_ => run_arr Try.underlying66 Try.underlying3 rfl (by kernel_rfl) .i64 [t200, t201, t202, t203] rfl x24_2 pr19 qr19 w_
            go_wp2
            go_roundg k2
            case measure => have := HK1.out; have := HK2.out; omega
            case rel => exact ⟨(wrap64 (x24_2 + 1)), tS_, H', ⟨by have := HK1.out; have := HK2.out; omega⟩, ⟨dB_ BK197⟩, ⟨dL1_ HB GE197⟩⟩
          ·rw [if_neg c16] at H
           exact absurd H (by simp)
         ·rw [if_neg c15] at H
          have c15b0 : decide (x24_2 < 4) = false := decide_eq_false c15
          clear c15
          have H' := Aside0.mk H
          clear H
          go_wp2
          go_roundg k2
          case measure => have := HK1.out; have := HK2.out; omega
          case rel => exact ⟨(wrap64 (x13_1 + 1)), tS_, H', ⟨by have := HK1.out; have := HK2.out; omega⟩, ⟨dB_ BK197⟩, ⟨dL1_ HB GE197⟩⟩
      ·replace c9 := Bool.eq_false_iff.mpr c9
       subst c9
       have H1 : (hinterlandref02_held.l0 k1 a1 l2 (l2.length : Int) (wrap64 (x13_1 + 1)) a0_0 a0_1 l0_2) = some r := by rw [if_neg (show ¬ (false = true) by decide)] at H; exact H
       clear H
       have H := H1
       clear H1
       have H' := Aside0.mk H
       clear H
       have p198 : 0 ≤ (x13_1 : Int) := of_decide_eq_true tW_
       have q198 : x13_1 < (l2.length : Int) := of_decide_eq_true tW_
       obtain ⟨ad198, e198, hx198_0⟩ := Kd.at_int HR2.out x13_1 p198 q198
       cases e198
       replace hx198_0 := bc_ HB hx198_0
       replace p198 := eq_true p198
       replace q198 := eq_true q198
       obtain ⟨hcz20_0, hcz20_1, hcz20_2, hfz20_0, hfz20_1, hfz20_2⟩ := cs3_ BK197.out
       go_wp2_with (first | ((with_reducible refine gate_callee (f := 40) rfl ?_); refine goesL_ (some 19) rfl rfl Try.func40 (by kernel_rfl) rfl #[.agg #[.int .i64 a0_0, .int .i64 a0_1, .slice A0_2 l0_2.length c0_2], .int .i64 (rd l2 x13_1)] rfl tA_ ?_; (with_reducible refine (hinterlandref02_Is.calls a0_0 a0_1 _ _ l0_2 (rd l2 x13_1) false _ ?side1 ?side2 A8.out).mono ?_); (case side1 => exact dC_ HR0_2 HB); (case side2 => exact HC0_2.out); rintro e w21 ⟨rfl, hb⟩; refine ⟨_, rfl, ?_⟩; replace BK197 := Aside0.mk (blk_below (g := gb197) (o := .cells #[.int .i64 a0_0, .int .i64 a0_1, .slice A0_2 l0_2.length c0_2] 24 (0, 0)) (dB_ BK197) hb); replace HB := Aside0.mk (below_step (dL1_ HB GE197) hb)))
       go_roundg k1
       case measure => have := HK1.out; omega
       case rel => exact ⟨(wrap64 (x13_1 + 1)), tS_, H', ⟨by have := HK1.out; omega⟩, ⟨dB_ BK197⟩, ⟨dL1_ HB GE197⟩⟩
     ·rw [if_neg c7] at H
      exact absurd H (by simp)
    ·rw [if_neg c6] at H
     exact absurd H (by simp)
   ·rw [if_neg c5] at H
    have c5b0 : decide (x13_1 < (l2.length : Int)) = false := decide_eq_false c5
    clear c5
    obtain rfl := Option.some.inj H
    go_wp2
    go_ret
    exact ⟨tE_, dL1_ HB GE197⟩

end Go.Proofs.Ytchflcnegpnkkaa.Q
