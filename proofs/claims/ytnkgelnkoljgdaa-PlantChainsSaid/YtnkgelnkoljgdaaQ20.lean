-- PRINTED by print.py (a twelfth state) out of the translation. Not trusted: Lean checks it.
import Derived.Test.YtnkgelnkoljgdaaPrs
import Derived.Test.YtnkgelnkoljgdaaQ0
namespace Go.Proofs.Ytnkgelnkoljgdaa.Q
open Go.RowKit Go.Proofs.YtnkgelnkoljgdaaPrs Go.Proofs.YtnkgelnkoljgdaaOwn Go.Proofs.YtnkgelnkoljgdaaW.PrintWords Go.Proofs.YtnkgelnkoljgdaaW.PrintLast Go.Proofs.YtnkgelnkoljgdaaW.PrintMore
attribute [local go_sem] max2_int min2_int max_two min_two max_three min_three max_four min_four   -- for this text's walks alone
set_option linter.unusedVariables false
set_option linter.unusedSimpArgs false

/-! ### hinterlandref10_Takes: function 42 -/
def hinterlandref10_Takes.l0 : Nat → Int → List Int → Int → Int → Option (Bool)
  | 0, _, _, _, _ => none
  | k + 1, x1, x8, x9, x10 => if x10 < x9 then (if 0 ≤ x10 then (if x10 < (x8.length : Int) then (if (rd x8 x10) = x1 then (some true) else (hinterlandref10_Takes.l0 k x1 x8 x9 (wrap64 (x10 + 1)))) else (none)) else (none)) else (some false)
def hinterlandref10_Takes.f (k : Nat) (a0_0 : ByteArray) (l0_1 : List Int) (l0_2 : List (S41)) (a1 : Int) : Option (Bool) := hinterlandref10_Takes.l0 k a1 l0_1 (l0_1.length : Int) 0
theorem hinterlandref10_Takes.mono_l : ∀ k, (∀ y0 y1 y2 y3, LeO (hinterlandref10_Takes.l0 k y0 y1 y2 y3) (hinterlandref10_Takes.l0 (k + 1) y0 y1 y2 y3))
  | 0 => fun _ _ _ _ r h => by simp [hinterlandref10_Takes.l0] at h
  | k + 1 => by
    have ih0 := hinterlandref10_Takes.mono_l k
    · intro y0 y1 y2 y3
      unfold hinterlandref10_Takes.l0
      repeat' first
      | (with_reducible first | exact ih0 _ _ _ _ | exact LeO.refl _ | exact LeO.none _ | refine LeO.ite ?_ ?_ | refine LeO.bind ?_ (fun _ => ?_))
      | exact ih0 _ _ _ _
      | exact LeO.none _
      | refine LeO.ite ?_ ?_
      | refine LeO.bind ?_ (fun _ => ?_)
theorem hinterlandref10_Takes.mono : ∀ a0 a1 a2 a3 k, LeO (hinterlandref10_Takes.f k a0 a1 a2 a3) (hinterlandref10_Takes.f (k + 1) a0 a1 a2 a3) := by
  intro a0 a1 a2 a3 k
  have ih0 := hinterlandref10_Takes.mono_l k
  unfold hinterlandref10_Takes.f
  repeat' first
      | (with_reducible first | exact ih0 _ _ _ _ | exact LeO.refl _ | exact LeO.none _ | refine LeO.ite ?_ ?_ | refine LeO.bind ?_ (fun _ => ?_))
      | exact ih0 _ _ _ _
      | exact LeO.none _
      | refine LeO.ite ?_ ?_
      | refine LeO.bind ?_ (fun _ => ?_)
set_option maxHeartbeats 8000000 in
set_option maxRecDepth 100000 in
theorem hinterlandref10_Takes.calls (k : Nat) (a0_0 : ByteArray) (A0_1 : Option Addr) (c0_1 : Nat) (l0_1 : List Int) (A0_2 : Option Addr) (c0_2 : Nat) (l0_2 : List (S41)) (a1 : Int) (r : Bool) (w : World) (hr0_1 : Kd.C (Kd.int .i64) w A0_1 l0_1.length l0_1) (hc0_1 : l0_1.length ≤ c0_1) (hr0_2 : Kd.C k41 w A0_2 l0_2.length l0_2) (hc0_2 : l0_2.length ≤ c0_2) (h : hinterlandref10_Takes.f k a0_0 l0_1 l0_2 a1 = some r) :
    Calls Try.prog 42 #[.agg #[.string a0_0, .slice A0_1 l0_1.length c0_1, .slice A0_2 l0_2.length c0_2], .int .i64 a1] w fun e w' => e = .returned (.bool r) ∧ Below w.heap.size w w' := by
 have hu39 := Try.underlying39
 have HR0_1 := Aside0.mk hr0_1
 have HC0_1 := Aside0.mk hc0_1
 clear hr0_1 hc0_1
 have HR0_2 := Aside0.mk hr0_2
 have HC0_2 := Aside0.mk hc0_2
 clear hr0_2 hc0_2
 have HB := Aside0.mk (Below.refl w.heap.size w)
 have H : (hinterlandref10_Takes.l0 k a1 l0_1 (l0_1.length : Int) 0) = some r := h
 clear h
 have H' := Aside0.mk H
 clear H
 go_enter Try.func42, Try.ntmps42
 go_wp2_with (first | ((with_reducible refine gate_dst (N := 2) rfl ?_); refine box_event ?hg (N := 2) ?hd (cs := #[.string a0_0, .slice A0_1 l0_1.length c0_1, .slice A0_2 l0_2.length c0_2]) (t := 39) ?hr ?_; (case hd => rfl); (case hg => rfl); (case hr => first | (go_simp; done) | (go_simp; rfl)); intro gb268 hg w3 hbox hb; have BK268 := Aside0.mk (hbox); have GW268 := Aside0.mk ((dS_ hg (dL_ HB) : w.heap.size ≤ gb268)); have GE268 := Aside0.mk ((dS_ hg (dL_ HB) : w.heap.size ≤ gb268)); replace HB := Aside0.mk (below_step (dL_ HB) hb); clear hb hbox hg; obtain ⟨hcz4_0, hcz4_1, hcz4_2, hfz4_0, hfz4_1, hfz4_2⟩ := cs3_ BK268.out))
 go_loopg [10] k (fun kq v10 w' => ∃ (x10_1 : Int), v10 = .int .i64 x10_1 ∧ Aside0 (hinterlandref10_Takes.l0 kq a1 l0_1 (l0_1.length : Int) x10_1 = some r) ∧ Aside0 (kq ≤ k) ∧ Aside0 (w'.heap[gb268]? = some (.cells #[.string a0_0, (.slice A0_1 l0_1.length c0_1), (.slice A0_2 l0_2.length c0_2)] 39 (0, 0))) ∧ Aside0 (Below w.heap.size w w'))
 case atStart => exact ⟨(0), tS_, H', ⟨Nat.le_refl _⟩, ⟨dB_ BK268⟩, ⟨dL1_ HB GE268⟩⟩
 case round =>
  clear H'
  try clear hcz4_0
  try clear hcz4_1
  try clear hcz4_2
  try clear hfz4_0
  try clear hfz4_1
  try clear hfz4_2
  obtain ⟨x10_1, rfl, HA, HK1, BK268, HB⟩ := hrel
  cases gk with
  | zero => exact absurd HA.out (by simp [hinterlandref10_Takes.l0])
  | succ k1 =>
   have H := HA.out
   clear HA
   simp only [hinterlandref10_Takes.l0] at H
   by_cases c5 : x10_1 < (l0_1.length : Int)
   ·rw [if_pos c5] at H
    have c5b0 : decide (x10_1 < (l0_1.length : Int)) = true := decide_eq_true c5
    clear c5
    by_cases c6 : 0 ≤ x10_1
    ·rw [if_pos c6] at H
     have c6b0 : decide (0 ≤ x10_1) = true := decide_eq_true c6
     clear c6
     by_cases c7 : x10_1 < (l0_1.length : Int)
     ·rw [if_pos c7] at H
      have c7b0 : decide (x10_1 < (l0_1.length : Int)) = true := decide_eq_true c7
      clear c7
      by_cases c8 : (rd l0_1 x10_1) = a1
      ·rw [if_pos c8] at H
       have c8b0 : ((rd l0_1 x10_1) == a1) = true := beq_iff_eq.mpr c8
       have c8b1 : ((rd l0_1 x10_1) != a1) = false := bne_eq_false_iff_eq.mpr c8
       clear c8
       obtain rfl := Option.some.inj H
       have p269 : 0 ≤ (x10_1 : Int) := of_decide_eq_true tW_
       have q269 : x10_1 < (l0_1.length : Int) := of_decide_eq_true tW_
       obtain ⟨ad269, e269, hx269_0⟩ := Kd.at_int HR0_1.out x10_1 p269 q269
       cases e269
       replace hx269_0 := bc_ HB hx269_0
       replace p269 := eq_true p269
       replace q269 := eq_true q269
       go_wp2
       go_ret
       exact ⟨tE_, dL1_ HB GE268⟩
      ·rw [if_neg c8] at H
       have c8b0 : ((rd l0_1 x10_1) == a1) = false := beq_eq_false_iff_ne.mpr c8
       have c8b1 : ((rd l0_1 x10_1) != a1) = true := bne_iff_ne.mpr c8
       have H' := Aside0.mk H
       clear H
       have p269 : 0 ≤ (x10_1 : Int) := of_decide_eq_true tW_
       have q269 : x10_1 < (l0_1.length : Int) := of_decide_eq_true tW_
       obtain ⟨ad269, e269, hx269_0⟩ := Kd.at_int HR0_1.out x10_1 p269 q269
       cases e269
       replace hx269_0 := bc_ HB hx269_0
       replace p269 := eq_true p269
       replace q269 := eq_true q269
       go_wp2
       go_roundg k1
       case measure => have := HK1.out; omega
       case rel => exact ⟨(wrap64 (x10_1 + 1)), tS_, H', ⟨by have := HK1.out; omega⟩, ⟨dB_ BK268⟩, ⟨dL1_ HB GE268⟩⟩
     ·rw [if_neg c7] at H
      exact absurd H (by simp)
    ·rw [if_neg c6] at H
     exact absurd H (by simp)
   ·rw [if_neg c5] at H
    have c5b0 : decide (x10_1 < (l0_1.length : Int)) = false := decide_eq_false c5
    clear c5
    obtain rfl := Option.some.inj H
    go_wp2
    go_ret
    exact ⟨tE_, dL1_ HB GE268⟩

end Go.Proofs.Ytnkgelnkoljgdaa.Q
