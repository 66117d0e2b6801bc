-- PRINTED by print.py (a twelfth state) out of the translation. Not trusted: Lean checks it.
import Derived.Test.YtchflcnegpnkkabPrs
import Derived.Test.YtchflcnegpnkkabQ0
namespace Go.Proofs.Ytchflcnegpnkkab.Q
open Go.RowKit Go.Proofs.YtchflcnegpnkkabPrs Go.Proofs.YtchflcnegpnkkabOwn Go.Proofs.YtchflcnegpnkkabW.PrintWords Go.Proofs.YtchflcnegpnkkabW.PrintLast Go.Proofs.YtchflcnegpnkkabW.PrintMore
attribute [local go_sem] max2_int min2_int max_two min_two max_three min_three max_four min_four   -- for this text's walks alone
set_option linter.unusedVariables false
set_option linter.unusedSimpArgs false

/-! ### roll_New: function 24 -/
def roll_New.l0 : Nat → ByteArray → Int → Int → Int → Option (Int)
  | 0, _, _, _, _ => none
  | k + 1, x1, x5, x9, x10 => if x10 < x9 then (if 0 ≤ x10 then (if x10 < (x1.size : Int) then (roll_New.l0 k x1 (IntKind.u64.wrap ((Go.bits .xor .u64 x5 (IntKind.u64.wrap (bt x1 x10))) * 1099511628211)) x9 (wrap64 (x10 + 1))) else (none)) else (none)) else (some x5)
def roll_New.f (k : Nat) (a0 : Int) (a1 : ByteArray) : Option (Int) := roll_New.l0 k a1 a0 (a1.size : Int) 0
theorem roll_New.mono_l : ∀ k, (∀ y0 y1 y2 y3, LeO (roll_New.l0 k y0 y1 y2 y3) (roll_New.l0 (k + 1) y0 y1 y2 y3))
  | 0 => fun _ _ _ _ r h => by simp [roll_New.l0] at h
  | k + 1 => by
    have ih0 := roll_New.mono_l k
    · intro y0 y1 y2 y3
      unfold roll_New.l0
      repeat' first
      | (with_reducible first | exact ih0 _ _ _ _ | exact LeO.refl _ | exact LeO.none _ | refine LeO.ite ?_ ?_ | refine LeO.bind ?_ (fun _ => ?_))
      | exact ih0 _ _ _ _
      | exact LeO.none _
      | refine LeO.ite ?_ ?_
      | refine LeO.bind ?_ (fun _ => ?_)
theorem roll_New.mono : ∀ a0 a1 k, LeO (roll_New.f k a0 a1) (roll_New.f (k + 1) a0 a1) := by
  intro a0 a1 k
  have ih0 := roll_New.mono_l k
  unfold roll_New.f
  repeat' first
      | (with_reducible first | exact ih0 _ _ _ _ | exact LeO.refl _ | exact LeO.none _ | refine LeO.ite ?_ ?_ | refine LeO.bind ?_ (fun _ => ?_))
      | exact ih0 _ _ _ _
      | exact LeO.none _
      | refine LeO.ite ?_ ?_
      | refine LeO.bind ?_ (fun _ => ?_)
set_option maxHeartbeats 8000000 in
set_option maxRecDepth 100000 in
theorem roll_New.calls (k : Nat) (a0 : Int) (a1 : ByteArray) (r : Int) (w : World) (h : roll_New.f k a0 a1 = some r) :
    Calls Try.prog 24 #[.int .u64 a0, .string a1] w fun e w' => e = .returned (.agg #[.int .u64 r]) ∧ Below w.heap.size w w' := by
 have hu52 := Try.underlying52
 have HB := Aside0.mk (Below.refl w.heap.size w)
 have H : (roll_New.l0 k a1 a0 (a1.size : Int) 0) = some r := h
 clear h
 have H' := Aside0.mk H
 clear H
 go_enter Try.func24, Try.ntmps24
 go_wp2_with (first | ((with_reducible refine gate_dst (N := 4) rfl ?_); refine box_event ?hg (N := 4) ?hd (cs := #[.int .u64 0]) (t := 52) ?hr ?_; (case hd => rfl); (case hg => rfl); (case hr => first | (go_simp; done) | (go_simp; rfl)); intro gb238 hg w3 hbox hb; have BK238 := Aside0.mk (hbox); have GW238 := Aside0.mk ((dS_ hg (dL_ HB) : w.heap.size ≤ gb238)); have GE238 := Aside0.mk ((dS_ hg (dL_ HB) : w.heap.size ≤ gb238)); replace HB := Aside0.mk (below_step (dL_ HB) hb); clear hb hbox hg))
 go_loopg [5, 10] k (fun kq v5 v10 w' => ∃ (x5_1 : Int) (x10_1 : Int), v5 = .int .u64 x5_1 ∧ v10 = .int .i64 x10_1 ∧ Aside0 (roll_New.l0 kq a1 x5_1 (a1.size : Int) x10_1 = some r) ∧ Aside0 (kq ≤ k) ∧ Aside0 (w'.heap[gb238]? = some (.cells #[.int .u64 0] 52 (0, 0))) ∧ Aside0 (Below w.heap.size w w'))
 case atStart => exact ⟨(a0), (0), tS_, tS_, H', ⟨Nat.le_refl _⟩, ⟨dB_ BK238⟩, ⟨dL1_ HB GE238⟩⟩
 case round =>
  clear H'
  obtain ⟨x5_1, x10_1, rfl, rfl, HA, HK1, BK238, HB⟩ := hrel
  cases gk with
  | zero => exact absurd HA.out (by simp [roll_New.l0])
  | succ k1 =>
   have H := HA.out
   clear HA
   simp only [roll_New.l0] at H
   by_cases c4 : x10_1 < (a1.size : Int)
   ·rw [if_pos c4] at H
    have c4b0 : decide (x10_1 < (a1.size : Int)) = true := decide_eq_true c4
    clear c4
    by_cases c5 : 0 ≤ x10_1
    ·rw [if_pos c5] at H
     have c5b0 : decide (0 ≤ x10_1) = true := decide_eq_true c5
     clear c5
     by_cases c6 : x10_1 < (a1.size : Int)
     ·rw [if_pos c6] at H
      have c6b0 : decide (x10_1 < (a1.size : Int)) = true := decide_eq_true c6
      clear c6
      have H' := Aside0.mk H
      clear H
      have p7 : 0 ≤ (x10_1 : Int) := of_decide_eq_true tW_
      have q7 : x10_1 < (a1.size : Int) := of_decide_eq_true tW_
      have hx7 := bt_at a1 x10_1
      replace p7 := eq_true p7
      replace q7 := eq_true q7
      go_wp2
      go_roundg k1
      case measure => have := HK1.out; omega
      case rel => exact ⟨(IntKind.u64.wrap ((Go.bits .xor .u64 x5_1 (IntKind.u64.wrap (bt a1 x10_1))) * 1099511628211)), (wrap64 (x10_1 + 1)), tS_, tS_, H', ⟨by have := HK1.out; omega⟩, ⟨dB_ BK238⟩, ⟨dL1_ HB GE238⟩⟩
     ·rw [if_neg c6] at H
      exact absurd H (by simp)
    ·rw [if_neg c5] at H
     exact absurd H (by simp)
   ·rw [if_neg c4] at H
    have c4b0 : decide (x10_1 < (a1.size : Int)) = false := decide_eq_false c4
    clear c4
    obtain rfl := Option.some.inj H
    have hcz8_0 : wr.cell? ⟨gb238, 0, none⟩ = some (.int .u64 0) := (blk_cell BK238.out 0).trans rfl
    have hfz8_0 := blk_frozen BK238.out 0
    go_wp2
    refine bodyPost_ret (results_cell_row rfl _ _ gb238 52 #[.int .u64 x5_1] (0, 0) _ rfl (by (with_reducible repeat (first | refine blk_drewN ?_ _ | refine blk_drew ?_ | refine blk_alloc ?_ _)); refine blk_put (cs := #[.int .u64 0]) ?_ 0 _ rfl; (with_reducible repeat (first | refine blk_drewN ?_ _ | refine blk_drew ?_ | refine blk_alloc ?_ _)); exact BK238.out) Try.underlying52 rfl (by kernel_rfl)) rfl ?_
    exact ⟨tE_, dL1_ HB GE238⟩

end Go.Proofs.Ytchflcnegpnkkab.Q
