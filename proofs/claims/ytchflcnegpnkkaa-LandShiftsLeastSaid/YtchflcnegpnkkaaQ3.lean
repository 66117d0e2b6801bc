-- PRINTED by print.py (a twelfth state) out of the translation. Not trusted: Lean checks it.
import Derived.Test.YtchflcnegpnkkaaPrs
import Derived.Test.YtchflcnegpnkkaaQ0
namespace Go.Proofs.Ytchflcnegpnkkaa.Q
open Go.RowKit Go.Proofs.YtchflcnegpnkkaaPrs Go.Proofs.YtchflcnegpnkkaaOwn Go.Proofs.YtchflcnegpnkkaaW.PrintWords Go.Proofs.YtchflcnegpnkkaaW.PrintLast Go.Proofs.YtchflcnegpnkkaaW.PrintMore
attribute [local go_sem] max2_int min2_int max_two min_two max_three min_three max_four min_four   -- for this text's walks alone
set_option linter.unusedVariables false
set_option linter.unusedSimpArgs false

/-! ### hinterlandlaw02_large: function 15 -/
def hinterlandlaw02_large.l0 : Nat → Int → List (List Int) → Int → Int → Option (Bool)
  | 0, _, _, _, _ => none
  | k + 1, x5, x11, x12, x13 => if x13 < x12 then (if 0 ≤ x13 then (if x13 < (x11.length : Int) then (hinterlandlaw02_large.l0 k (mx x5 ((rd_L1 x11 x13).length : Int)) x11 x12 (wrap64 (x13 + 1))) else (none)) else (none)) else (some (decide (x5 > 4000)))
def hinterlandlaw02_large.f (k : Nat) (a0_0 : Int) (a0_1 : Int) (l0_2 : List Int) (l1 : List (List Int)) : Option (Bool) := hinterlandlaw02_large.l0 k (l0_2.length : Int) l1 (l1.length : Int) 0
theorem hinterlandlaw02_large.mono_l : ∀ k, (∀ y0 y1 y2 y3, LeO (hinterlandlaw02_large.l0 k y0 y1 y2 y3) (hinterlandlaw02_large.l0 (k + 1) y0 y1 y2 y3))
  | 0 => fun _ _ _ _ r h => by simp [hinterlandlaw02_large.l0] at h
  | k + 1 => by
    have ih0 := hinterlandlaw02_large.mono_l k
    · intro y0 y1 y2 y3
      unfold hinterlandlaw02_large.l0
      repeat' first
      | (with_reducible first | exact ih0 _ _ _ _ | exact LeO.refl _ | exact LeO.none _ | refine LeO.ite ?_ ?_ | refine LeO.bind ?_ (fun _ => ?_))
      | exact ih0 _ _ _ _
      | exact LeO.none _
      | refine LeO.ite ?_ ?_
      | refine LeO.bind ?_ (fun _ => ?_)
theorem hinterlandlaw02_large.mono : ∀ a0 a1 a2 a3 k, LeO (hinterlandlaw02_large.f k a0 a1 a2 a3) (hinterlandlaw02_large.f (k + 1) a0 a1 a2 a3) := by
  intro a0 a1 a2 a3 k
  have ih0 := hinterlandlaw02_large.mono_l k
  unfold hinterlandlaw02_large.f
  repeat' first
      | (with_reducible first | exact ih0 _ _ _ _ | exact LeO.refl _ | exact LeO.none _ | refine LeO.ite ?_ ?_ | refine LeO.bind ?_ (fun _ => ?_))
      | exact ih0 _ _ _ _
      | exact LeO.none _
      | refine LeO.ite ?_ ?_
      | refine LeO.bind ?_ (fun _ => ?_)
set_option maxHeartbeats 8000000 in
set_option maxRecDepth 100000 in
theorem hinterlandlaw02_large.calls (k : Nat) (a0_0 : Int) (a0_1 : Int) (A0_2 : Option Addr) (c0_2 : Nat) (l0_2 : List Int) (A1 : Option Addr) (c1 : Nat) (l1 : List (List Int)) (r : Bool) (w : World) (hr0_2 : Kd.C (Kd.int .i64) w A0_2 l0_2.length l0_2) (hc0_2 : l0_2.length ≤ c0_2) (hr1 : Kd.C (Kd.slice 3 (Kd.int .i64)) w A1 l1.length l1) (hc1 : l1.length ≤ c1) (h : hinterlandlaw02_large.f k a0_0 a0_1 l0_2 l1 = some r) :
    Calls Try.prog 15 #[.agg #[.int .i64 a0_0, .int .i64 a0_1, .slice A0_2 l0_2.length c0_2], .slice A1 l1.length c1] w fun e w' => e = .returned (.bool r) ∧ Below w.heap.size w w' := by
 have hu24 := Try.underlying24
 have HR0_2 := Aside0.mk hr0_2
 have HC0_2 := Aside0.mk hc0_2
 clear hr0_2 hc0_2
 have HR1 := Aside0.mk hr1
 have HC1 := Aside0.mk hc1
 clear hr1 hc1
 have HB := Aside0.mk (Below.refl w.heap.size w)
 have H : (hinterlandlaw02_large.l0 k (l0_2.length : Int) l1 (l1.length : Int) 0) = some r := h
 clear h
 have H' := Aside0.mk H
 clear H
 go_enter Try.func15, Try.ntmps15
 go_wp2_with (first | ((with_reducible refine gate_dst (N := 2) rfl ?_); refine box_event ?hg (N := 2) ?hd (cs := #[.int .i64 a0_0, .int .i64 a0_1, .slice A0_2 l0_2.length c0_2]) (t := 24) ?hr ?_; (case hd => rfl); (case hg => rfl); (case hr => first | (go_simp; done) | (go_simp; rfl)); intro gb101 hg w3 hbox hb; have BK101 := Aside0.mk (hbox); have GW101 := Aside0.mk ((dS_ hg (dL_ HB) : w.heap.size ≤ gb101)); have GE101 := Aside0.mk ((dS_ hg (dL_ HB) : w.heap.size ≤ gb101)); replace HB := Aside0.mk (below_step (dL_ HB) hb); clear hb hbox hg; obtain ⟨hcz4_0, hcz4_1, hcz4_2, hfz4_0, hfz4_1, hfz4_2⟩ := cs3_ BK101.out))
 go_loopg [5, 13] k (fun kq v5 v13 w' => ∃ (x5_1 : Int) (x13_1 : Int), v5 = .int .i64 x5_1 ∧ v13 = .int .i64 x13_1 ∧ Aside0 (hinterlandlaw02_large.l0 kq x5_1 l1 (l1.length : Int) x13_1 = some r) ∧ Aside0 (kq ≤ k) ∧ Aside0 (w'.heap[gb101]? = some (.cells #[.int .i64 a0_0, .int .i64 a0_1, (.slice A0_2 l0_2.length c0_2)] 24 (0, 0))) ∧ Aside0 (Below w.heap.size w w'))
 case atStart => exact ⟨((l0_2.length : Int)), (0), tS_, tS_, H', ⟨Nat.le_refl _⟩, ⟨dB_ BK101⟩, ⟨dL1_ HB GE101⟩⟩
 case round =>
  clear H'
  try clear c1
  try clear hcz4_0
  try clear hcz4_1
  try clear hcz4_2
  try clear hfz4_0
  try clear hfz4_1
  try clear hfz4_2
  obtain ⟨x5_1, x13_1, rfl, rfl, HA, HK1, BK101, HB⟩ := hrel
  cases gk with
  | zero => exact absurd HA.out (by simp [hinterlandlaw02_large.l0])
  | succ k1 =>
   have H := HA.out
   clear HA
   simp only [hinterlandlaw02_large.l0] at H
   by_cases c5 : x13_1 < (l1.length : Int)
   ·rw [if_pos c5] at H
    have c5b0 : decide (x13_1 < (l1.length : Int)) = true := decide_eq_true c5
    clear c5
    by_cases c6 : 0 ≤ x13_1
    ·rw [if_pos c6] at H
     have c6b0 : decide (0 ≤ x13_1) = true := decide_eq_true c6
     clear c6
     by_cases c7 : x13_1 < (l1.length : Int)
     ·rw [if_pos c7] at H
      have c7b0 : decide (x13_1 < (l1.length : Int)) = true := decide_eq_true c7
      clear c7
      obtain ⟨ji8, hji8⟩ : ∃ j_ : Int, (mx x5_1 ((rd_L1 l1 x13_1).length : Int)) = j_ := ⟨_, rfl⟩
      replace H : (hinterlandlaw02_large.l0 k1 ji8 l1 (l1.length : Int) (wrap64 (x13_1 + 1))) = some r := by first | (rw [hji8] at H; exact H) | (simp only [hji8] at H ⊢; exact H)
      have hji8_ : (if x5_1 < ((rd_L1 l1 x13_1).length : Int) then ((rd_L1 l1 x13_1).length : Int) else x5_1) = ji8 := hji8
      have H' := Aside0.mk H
      clear H
      have p102 : 0 ≤ (x13_1 : Int) := of_decide_eq_true tW_
      have q102 : x13_1 < (l1.length : Int) := of_decide_eq_true tW_
      obtain ⟨ad102, A102_0, c102_0, e102, hx102_0, hl102_0, hi102_0⟩ := at_L1 HR1.out x13_1 p102 q102
      cases e102
      replace hx102_0 := bc_ HB hx102_0
      have HR102_0 := Aside0.mk hi102_0
      have HC102_0 := Aside0.mk hl102_0
      clear hi102_0 hl102_0
      replace p102 := eq_true p102
      replace q102 := eq_true q102
      go_wp2
      go_roundg k1
      case measure => have := HK1.out; omega
      case rel => exact ⟨(ji8), (wrap64 (x13_1 + 1)), (by first | rfl | (simp; done) | (simp only [← hji8]; rw [shl_one_small _ (by assumption) (by omega)]; done) | (simp only [← hji8] <;> (first | rfl | simp)) | (simp [*]; done) | (refine congrArg (Value.int .i64) ?_; unfold wrap64; omega) | (simp only [shl_one_small _ (by assumption) (by omega)]; done) | (simp [*]; rw [shl_one_small _ (by assumption) (by omega)]; done)), tS_, H', ⟨by have := HK1.out; omega⟩, ⟨dB_ BK101⟩, ⟨dL1_ HB GE101⟩⟩
     ·rw [if_neg c7] at H
      exact absurd H (by simp)
    ·rw [if_neg c6] at H
     exact absurd H (by simp)
   ·rw [if_neg c5] at H
    have c5b0 : decide (x13_1 < (l1.length : Int)) = false := decide_eq_false c5
    clear c5
    obtain rfl := Option.some.inj H
    go_wp2
    go_ret
    exact ⟨tE_, dL1_ HB GE101⟩

end Go.Proofs.Ytchflcnegpnkkaa.Q
