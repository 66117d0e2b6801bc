-- PRINTED by print.py out of the translation. Not trusted: Lean checks it.
import Derived.Test.YtldbkigenaakkaaGreatDoorQ0
import Derived.Test.YtldbkigenaakkaaGreatDoorPrs
namespace Go.Proofs.YtldbkigenaakkaaGreatDoor.Q
open Go.RowKit Go.Proofs.YtldbkigenaakkaaGreatDoorOwn Go.Proofs.YtldbkigenaakkaaGreatDoorW.PrintWords Go.Proofs.YtldbkigenaakkaaGreatDoorW.PrintLast Go.Proofs.YtldbkigenaakkaaGreatDoorW.PrintMore
attribute [local go_sem] max2_int min2_int max_two min_two max_three min_three max_four min_four   -- for this text's walks alone
set_option linter.unusedVariables false
set_option linter.unusedSimpArgs false

theorem eqA98 (d : Nat) (w : World) (x0 y0 : Int) (x1 y1 : Int) (x2 y2 : Int) (x3 y3 : Int) :
    (Op.equalIn (d + 2) 98 (.agg #[.int .i64 x0, .int .i64 x1, .int .i64 x2, .int .i64 x3]) (.agg #[.int .i64 y0, .int .i64 y1, .int .i64 y2, .int .i64 y3])).run Tryz.prog w = .ok (x0 == y0 && (x1 == y1 && (x2 == y2 && (x3 == y3)))) w :=
  eqArr4 Tryz.underlying98 Tryz.underlying3 (by kernel_rfl) d w _ _ _ _ _ _ _ _
end Go.Proofs.YtldbkigenaakkaaGreatDoor.Q
namespace Go.Proofs.YtldbkigenaakkaaGreatDoor.Q
open Go.RowKit Go.Proofs.YtldbkigenaakkaaGreatDoorPrs Go.Proofs.YtldbkigenaakkaaGreatDoorOwn Go.Proofs.YtldbkigenaakkaaGreatDoorW.PrintWords Go.Proofs.YtldbkigenaakkaaGreatDoorW.PrintLast Go.Proofs.YtldbkigenaakkaaGreatDoorW.PrintMore
attribute [local go_sem] max2_int min2_int max_two min_two max_three min_three max_four min_four   -- for this text's walks alone
set_option linter.unusedVariables false
set_option linter.unusedSimpArgs false

/-! ### land_sides: function 14 -/
def land_sides.f (a0 : Int) (a1 : Int) : Option (Bool) := if a0 ≥ 4 then (if a0 ≤ 32 then (if a1 ≥ 4 then (some (decide (a1 ≤ 32))) else (some false)) else (some false)) else (some false)
set_option maxHeartbeats 8000000 in
set_option maxRecDepth 100000 in
theorem land_sides.calls (a0 : Int) (a1 : Int) (r : Bool) (w : World) (h : land_sides.f a0 a1 = some r) :
    Calls Tryz.prog 14 #[.int .i64 a0, .int .i64 a1] w fun e w' => e = .returned (.bool r) ∧ Drawn0 w w' := by
 have H : (if a0 ≥ 4 then (if a0 ≤ 32 then (if a1 ≥ 4 then (some (decide (a1 ≤ 32))) else (some false)) else (some false)) else (some false)) = some r := h; clear h
 by_cases c3 : a0 ≥ 4
 ·rw [if_pos c3] at H; have c3b0 : decide (4 ≤ a0) = true := decide_eq_true c3; clear c3
  by_cases c4 : a0 ≤ 32
  ·rw [if_pos c4] at H; have c4b0 : decide (a0 ≤ 32) = true := decide_eq_true c4; clear c4
   by_cases c5 : a1 ≥ 4
   ·rw [if_pos c5] at H; have c5b0 : decide (4 ≤ a1) = true := decide_eq_true c5; clear c5; obtain rfl := Option.some.inj H
    go_enter Tryz.func14, Tryz.ntmps14
    go_wp2
    go_ret
    exact ⟨tS_, by repeat (first | exact Drawn0.refl _ | apply Drawn0.step)⟩
   ·rw [if_neg c5] at H; have c5b0 : decide (4 ≤ a1) = false := decide_eq_false c5; clear c5; obtain rfl := Option.some.inj H
    go_enter Tryz.func14, Tryz.ntmps14
    go_wp2
    go_ret
    exact ⟨tS_, by repeat (first | exact Drawn0.refl _ | apply Drawn0.step)⟩
  ·rw [if_neg c4] at H; have c4b0 : decide (a0 ≤ 32) = false := decide_eq_false c4; clear c4; obtain rfl := Option.some.inj H
   go_enter Tryz.func14, Tryz.ntmps14
   go_wp2
   go_ret
   exact ⟨tS_, by repeat (first | exact Drawn0.refl _ | apply Drawn0.step)⟩
 ·rw [if_neg c3] at H; have c3b0 : decide (4 ≤ a0) = false := decide_eq_false c3; clear c3; obtain rfl := Option.some.inj H
  go_enter Tryz.func14, Tryz.ntmps14
  go_wp2
  go_ret
  exact ⟨tS_, by repeat (first | exact Drawn0.refl _ | apply Drawn0.step)⟩

end Go.Proofs.YtldbkigenaakkaaGreatDoor.Q
namespace Go.Proofs.YtldbkigenaakkaaGreatDoor.Q
open Go.RowKit Go.Proofs.YtldbkigenaakkaaGreatDoorPrs Go.Proofs.YtldbkigenaakkaaGreatDoorOwn Go.Proofs.YtldbkigenaakkaaGreatDoorW.PrintWords Go.Proofs.YtldbkigenaakkaaGreatDoorW.PrintLast Go.Proofs.YtldbkigenaakkaaGreatDoorW.PrintMore
attribute [local go_sem] max2_int min2_int max_two min_two max_three min_three max_four min_four   -- for this text's walks alone
set_option linter.unusedVariables false
set_option linter.unusedSimpArgs false

/-! ### roll_New: function 15 -/
def roll_New.l0 : Nat → ByteArray → Int → Int → Int → Option (Int)
  | 0, _, _, _, _ => none
  | k + 1, x1, x5, x9, x10 => if x10 < x9 then (if 0 ≤ x10 then (if x10 < (x1.size : Int) then (roll_New.l0 k x1 (IntKind.u64.wrap ((Go.bits .xor .u64 x5 (IntKind.u64.wrap (bt x1 x10))) * 1099511628211)) x9 (wrap64 (x10 + 1))) else (none)) else (none)) else (some x5)
def roll_New.f (k : Nat) (a0 : Int) (a1 : ByteArray) : Option (Int) := roll_New.l0 k a1 a0 (a1.size : Int) 0
theorem roll_New.mono_l : ∀ k, (∀ y0 y1 y2 y3, LeO (roll_New.l0 k y0 y1 y2 y3) (roll_New.l0 (k + 1) y0 y1 y2 y3))
  | 0 => fun _ _ _ _ r h => by simp [roll_New.l0] at h
  | k + 1 => by
    have ih0 := roll_New.mono_l k
    · intro y0 y1 y2 y3
      unfold roll_New.l0
      repeat' first
      | (with_reducible first | apply ih0 | exact LeO.refl _ | exact LeO.none _ | refine LeO.ite ?_ ?_ | refine LeO.bind ?_ (fun _ => ?_))
theorem roll_New.mono : ∀ a0 a1 k, LeO (roll_New.f k a0 a1) (roll_New.f (k + 1) a0 a1) := by
  intro a0 a1 k; have ih0 := roll_New.mono_l k
  unfold roll_New.f
  repeat' first
      | (with_reducible first | apply ih0 | exact LeO.refl _ | exact LeO.none _ | refine LeO.ite ?_ ?_ | refine LeO.bind ?_ (fun _ => ?_))
set_option maxHeartbeats 8000000 in
set_option maxRecDepth 100000 in
theorem roll_New.calls (k : Nat) (a0 : Int) (a1 : ByteArray) (r : Int) (w : World) (h : roll_New.f k a0 a1 = some r) :
    Calls Tryz.prog 15 #[.int .u64 a0, .string a1] w fun e w' => e = .returned (.agg #[.int .u64 r]) ∧ Below w.heap.size w w' := by
 have hu47 := Tryz.underlying47; have HB := Aside0.mk (Below.refl w.heap.size w); have H : (roll_New.l0 k a1 a0 (a1.size : Int) 0) = some r := h; clear h; have H' := Aside0.mk H; clear H
 go_enter Tryz.func15, Tryz.ntmps15
 go_wp2_with (first | ((with_reducible refine gate_dst (N := 4) rfl ?_); refine bx_ (N := 4) (cs := #[.int .u64 0]) (t := 47) ?_; intro gb101 hg w3 hbox hb; have BK101 := Aside0.mk (hbox); have GW101 := Aside0.mk ((dS_ hg (dL_ HB) : w.heap.size ≤ gb101)); have GE101 := GW101; replace HB := Aside0.mk (below_step (dL_ HB) hb); clear hb hbox hg))
 go_loopg [5, 10] k (fun kq v5 v10 w' => ∃ (x5_1 : Int) (x10_1 : Int), v5 = .int .u64 x5_1 ∧ v10 = .int .i64 x10_1 ∧ Aside0 (roll_New.l0 kq a1 x5_1 (a1.size : Int) x10_1 = some r) ∧ Aside0 (kq ≤ k) ∧ Aside0 (w'.heap[gb101]? = some (.cells #[.int .u64 0] 47 (0, 0))) ∧ Aside0 (Below w.heap.size w w'))
 case atStart => exact ⟨(a0), (0), tS_, tS_, H', ⟨Nat.le_refl _⟩, ⟨dB_ BK101⟩, ⟨dL1_ HB GE101⟩⟩
 case round =>
  clear H'; obtain ⟨x5_1, x10_1, rfl, rfl, HA, HK1, BK101, HB⟩ := hrel
  cases gk with
  | zero => exact absurd HA.out (by simp [roll_New.l0])
  | succ k1 =>
   have H := HA.out; clear HA; simp only [roll_New.l0] at H
   by_cases c4 : x10_1 < (a1.size : Int)
   ·rw [if_pos c4] at H; have c4b0 : decide (x10_1 < (a1.size : Int)) = true := decide_eq_true c4; clear c4
    by_cases c5 : 0 ≤ x10_1
    ·rw [if_pos c5] at H; have c5b0 : decide (0 ≤ x10_1) = true := decide_eq_true c5; clear c5
     by_cases c6 : x10_1 < (a1.size : Int)
     ·rw [if_pos c6] at H; have c6b0 : decide (x10_1 < (a1.size : Int)) = true := decide_eq_true c6; clear c6; have H' := Aside0.mk H; clear H; have p7 : 0 ≤ (x10_1 : Int) := of_decide_eq_true tW_; have q7 : x10_1 < (a1.size : Int) := of_decide_eq_true tW_; have hx7 := bt_at a1 x10_1; replace p7 := eq_true p7; replace q7 := eq_true q7; go_wp2
      go_roundg k1
      case measure => have := HK1.out; omega
      case rel => exact ⟨(IntKind.u64.wrap ((Go.bits .xor .u64 x5_1 (IntKind.u64.wrap (bt a1 x10_1))) * 1099511628211)), (wrap64 (x10_1 + 1)), tS_, tS_, H', ⟨by have := HK1.out; omega⟩, ⟨dB_ BK101⟩, ⟨dL1_ HB GE101⟩⟩
     ·rw [if_neg c6] at H; exact absurd H (by simp)
    ·rw [if_neg c5] at H; exact absurd H (by simp)
   ·rw [if_neg c4] at H; have c4b0 : decide (x10_1 < (a1.size : Int)) = false := decide_eq_false c4; clear c4; obtain rfl := Option.some.inj H; have z8a : wr.cell? ⟨gb101, 0, none⟩ = some (.int .u64 0) := (blk_cell BK101.out 0).trans rfl; have y8a := blk_frozen BK101.out 0; go_wp2; refine bodyPost_ret (results_cell_row rfl _ _ gb101 47 #[.int .u64 x5_1] (0, 0) _ rfl (bz_ BK101) Tryz.underlying47 rfl (by kernel_rfl)) rfl ?_; exact ⟨tE_, dL1_ HB GE101⟩

end Go.Proofs.YtldbkigenaakkaaGreatDoor.Q
namespace Go.Proofs.YtldbkigenaakkaaGreatDoor.Q
open Go.RowKit Go.Proofs.YtldbkigenaakkaaGreatDoorPrs Go.Proofs.YtldbkigenaakkaaGreatDoorOwn Go.Proofs.YtldbkigenaakkaaGreatDoorW.PrintWords Go.Proofs.YtldbkigenaakkaaGreatDoorW.PrintLast Go.Proofs.YtldbkigenaakkaaGreatDoorW.PrintMore
open List renaming setIfInBounds_toArray → sI_, set_cons_zero → s0_, set_cons_succ → sS_
attribute [local go_sem] max2_int min2_int max_two min_two max_three min_three max_four min_four   -- for this text's walks alone
set_option linter.unusedVariables false
set_option linter.unusedSimpArgs false

/-! ### roll_Next: function 32 -/
def roll_Next.f (a0_0 : Int) : Option (Int × Int) := some (Go.bits .xor .u64 (IntKind.u64.wrap ((Go.bits .xor .u64 (IntKind.u64.wrap ((Go.bits .xor .u64 (IntKind.u64.wrap (a0_0 + 11400714819323198485)) ((IntKind.u64.wrap (a0_0 + 11400714819323198485)) / 1073741824)) * 13787848793156543929)) ((IntKind.u64.wrap ((Go.bits .xor .u64 (IntKind.u64.wrap (a0_0 + 11400714819323198485)) ((IntKind.u64.wrap (a0_0 + 11400714819323198485)) / 1073741824)) * 13787848793156543929)) / 134217728)) * 10723151780598845931)) ((IntKind.u64.wrap ((Go.bits .xor .u64 (IntKind.u64.wrap ((Go.bits .xor .u64 (IntKind.u64.wrap (a0_0 + 11400714819323198485)) ((IntKind.u64.wrap (a0_0 + 11400714819323198485)) / 1073741824)) * 13787848793156543929)) ((IntKind.u64.wrap ((Go.bits .xor .u64 (IntKind.u64.wrap (a0_0 + 11400714819323198485)) ((IntKind.u64.wrap (a0_0 + 11400714819323198485)) / 1073741824)) * 13787848793156543929)) / 134217728)) * 10723151780598845931)) / 2147483648), IntKind.u64.wrap (a0_0 + 11400714819323198485))
set_option maxHeartbeats 8000000 in
set_option maxRecDepth 100000 in
theorem roll_Next.calls (a0_0 : Int) (r1 : Int) (r2 : Int) (w : World) (h : roll_Next.f a0_0 = some (r1, r2)) :
    Calls Tryz.prog 32 #[.agg #[.int .u64 a0_0]] w fun e w' => e = .returned (.tuple #[.int .u64 r1, .agg #[.int .u64 r2]]) ∧ Below w.heap.size w w' := by
 have hu47 := Tryz.underlying47; have HB := Aside0.mk (Below.refl w.heap.size w); have H : (some (Go.bits .xor .u64 (IntKind.u64.wrap ((Go.bits .xor .u64 (IntKind.u64.wrap ((Go.bits .xor .u64 (IntKind.u64.wrap (a0_0 + 11400714819323198485)) ((IntKind.u64.wrap (a0_0 + 11400714819323198485)) / 1073741824)) * 13787848793156543929)) ((IntKind.u64.wrap ((Go.bits .xor .u64 (IntKind.u64.wrap (a0_0 + 11400714819323198485)) ((IntKind.u64.wrap (a0_0 + 11400714819323198485)) / 1073741824)) * 13787848793156543929)) / 134217728)) * 10723151780598845931)) ((IntKind.u64.wrap ((Go.bits .xor .u64 (IntKind.u64.wrap ((Go.bits .xor .u64 (IntKind.u64.wrap (a0_0 + 11400714819323198485)) ((IntKind.u64.wrap (a0_0 + 11400714819323198485)) / 1073741824)) * 13787848793156543929)) ((IntKind.u64.wrap ((Go.bits .xor .u64 (IntKind.u64.wrap (a0_0 + 11400714819323198485)) ((IntKind.u64.wrap (a0_0 + 11400714819323198485)) / 1073741824)) * 13787848793156543929)) / 134217728)) * 10723151780598845931)) / 2147483648), IntKind.u64.wrap (a0_0 + 11400714819323198485))) = some (r1, r2) := h; clear h; simp only [Option.some.injEq, Prod.mk.injEq] at H; obtain ⟨rfl, rfl⟩ := H
 go_enter Tryz.func32, Tryz.ntmps32
 try go_wp2_with (first | ((with_reducible refine gate_dst (N := 1) rfl ?_); refine bx_ (N := 1) (cs := #[.int .u64 a0_0]) (t := 47) ?_; intro gb102 hg w2 hbox hb; have BK102 := Aside0.mk (hbox); have GW102 := Aside0.mk ((dS_ hg (dL_ HB) : w.heap.size ≤ gb102)); have GE102 := GW102; replace HB := Aside0.mk (below_step (dL_ HB) hb); clear hb hbox hg) | ((with_reducible refine gate_dst (N := 3) rfl ?_); refine bx_ (N := 3) (cs := #[.int .u64 0]) (t := 47) ?_; intro gb103 hg w3 hbox hb; have BK103 := Aside0.mk (hbox); have GW103 := Aside0.mk ((dS_ hg (dL1_ HB GE102) : w.heap.size ≤ gb103)); have GE103 := GW103; replace HB := Aside0.mk (below_step (dL1_ HB GE102) hb); have NB102_103 := nb_ hg BK102; have NB103_102 := nc_ hg BK102; replace BK102 := bk_ BK102 hb; clear hb hbox hg; have hnb4 := NB102_103.out; have hnc4 := NB103_102.out; have z5a : w3.cell? ⟨gb102, 0, none⟩ = some (.int .u64 a0_0) := (blk_cell BK102.out 0).trans rfl; have y5a := blk_frozen BK102.out 0))
 generalize hW_ : (w3.setCell ⟨gb102, 0, none⟩ (.int .u64 (IntKind.u64.wrap (a0_0 + 11400714819323198485)))) = w6; replace BK102 : Aside0 (w6.heap[gb102]? = some (.cells #[.int .u64 (IntKind.u64.wrap (a0_0 + 11400714819323198485))] 47 (0, 0))) := hp_ hW_ (bz_ BK102); replace BK103 := bw_ hW_ BK103; replace HB := hb_ hW_ HB; clear hW_; replace BK102 := Aside0.mk (blk_drew BK102.out); replace BK103 := Aside0.mk (blk_drew BK103.out); replace HB := Aside0.mk (below_drew1 HB.out); refine start_ (n := 7) (S := fun w' => w'.cell? ⟨gb102, 0, none⟩ = some (.int .u64 (IntKind.u64.wrap (a0_0 + 11400714819323198485)))) (ds := []) #[false, false, false, false, false, false, false] (by kernel_rfl) rfl rfl ((blk_cell BK102.out 0).trans rfl) (fun hHeld => ?_); generalize w6.drew = w7 at BK102 BK103 HB hHeld ⊢; refine pure_ (i := 0) (N := some 21) (v := ?_) (a' := ?_) (bA 1 7) rfl rfl (by kernel_rfl) (fun _ _ _ h => h) (Or.inl ⟨by rfl, ?_⟩) ?_ ?_; rotate_left; (intro w'; go_simp; with_reducible rfl); rotate_left; (simp only [Act.put, sI_, s0_, sS_, i64_w, i32_w]; rfl); refine pure_ (i := 1) (N := some 22) (v := ?_) (a' := ?_) (bA 2 7) rfl rfl (by kernel_rfl) (fun _ _ _ h => h) (Or.inl ⟨by rfl, ?_⟩) ?_ ?_; rotate_left; (intro w'; go_simp; with_reducible rfl); rotate_left; (simp only [Act.put, sI_, s0_, sS_, i64_w, i32_w]; rfl); refine pure_ (i := 2) (N := some 23) (v := ?_) (a' := ?_) (bA 3 7) rfl rfl (by kernel_rfl) (fun _ _ _ h => h) (Or.inl ⟨by rfl, ?_⟩) ?_ ?_; rotate_left; (intro w'; go_simp; with_reducible rfl); rotate_left; (simp only [Act.put, sI_, s0_, sS_, i64_w, i32_w]; rfl); refine pure_ (i := 3) (N := some 24) (v := ?_) (a' := ?_) (bA 4 7) rfl rfl (by kernel_rfl) (fun _ _ _ h => h) (Or.inl ⟨by rfl, ?_⟩) ?_ ?_; rotate_left; (intro w'; go_simp; with_reducible rfl); rotate_left; (simp only [Act.put, sI_, s0_, sS_, i64_w, i32_w]; rfl); refine pure_ (i := 5) (N := some 2) (v := ?_) (a' := ?_) #[true, true, true, true, false, true, false] rfl rfl (by kernel_rfl) (fun _ _ _ h => h) (Or.inl ⟨by rfl, ?_⟩) ?_ ?_; rotate_left; (intro w'; go_simp; with_reducible rfl); rotate_left; (simp only [Act.put, sI_, s0_, sS_, i64_w, i32_w]; rfl); refine take_ (i := 4) (N := some 25) (v := ?_) (a' := ?_) (bA 6 7) rfl rfl (by kernel_rfl) (fun _ _ _ h => h) (Or.inl ⟨by rfl, ?_⟩) hHeld ?_ ?_; rotate_left; (intro w' s0; go_simp; with_reducible rfl); rotate_left; (simp only [Act.put, sI_, s0_, sS_, i64_w, i32_w]; rfl); refine one_ (i := 6) (N := none) (bA 7 7) rfl rfl (by kernel_rfl) (by decide) (fun K hK => ?_)
 have hs8 : w7.cell? ⟨gb103, 0, none⟩ = some (.int .u64 0) := (blk_cell BK103.out 0).trans rfl; have hfs8 := blk_frozen BK103.out 0; have hns8_0 := NB102_103.out; have hms8_0 := NB103_102.out; refine skip_ (w1 := ?_) (by rfl) rfl ?_ ?_
 rotate_left
 ·go_simp
  rfl
 refine hK.out _ _ (((cell_far (p := ⟨gb103, _, none⟩) NB102_103.out _).trans (hHeld))) (fun hHeld => ?_); clear hK K; refine done_ (by kernel_rfl) ?_
 try go_wp2
 refine bodyPost_ret (results_tc rfl _ _ gb103 47 #[.int .u64 (IntKind.u64.wrap (a0_0 + 11400714819323198485))] (0, 0) _ rfl (bz_ BK103) Tryz.underlying47 rfl (by kernel_rfl)) rfl ?_; exact ⟨tE_, dL2_ HB GE102 GE103⟩

end Go.Proofs.YtldbkigenaakkaaGreatDoor.Q
namespace Go.Proofs.YtldbkigenaakkaaGreatDoor.Q
open Go.RowKit Go.Proofs.YtldbkigenaakkaaGreatDoorPrs Go.Proofs.YtldbkigenaakkaaGreatDoorOwn Go.Proofs.YtldbkigenaakkaaGreatDoorW.PrintWords Go.Proofs.YtldbkigenaakkaaGreatDoorW.PrintLast Go.Proofs.YtldbkigenaakkaaGreatDoorW.PrintMore
open List renaming setIfInBounds_toArray → sI_, set_cons_zero → s0_, set_cons_succ → sS_
attribute [local go_sem] max2_int min2_int max_two min_two max_three min_three max_four min_four   -- for this text's walks alone
set_option linter.unusedVariables false
set_option linter.unusedSimpArgs false

/-! ### roll_Below: function 16 -/
def roll_Below.l0 : Nat → Int → Int → Int → Option (Int × Int)
  | 0, _, _, _ => none
  | k + 1, x6, x7, x105000 => (roll_Next.f x105000).bind fun bt106 => (if bt106.1 ≤ (Go.bits .xor .u64 IntKind.u64.max x7) then (if x6 = 0 then (none) else (some (wrap64 (Int.tmod bt106.1 x6), bt106.2))) else (roll_Below.l0 k x6 x7 bt106.2))
def roll_Below.f (k : Nat) (a0_0 : Int) (a1 : Int) : Option (Int × Int) := if a1 < 1 then (some (0, a0_0)) else (if (IntKind.u64.wrap (a1)) = 0 then (none) else (roll_Below.l0 k (IntKind.u64.wrap (a1)) (Int.tmod (IntKind.u64.wrap (-(IntKind.u64.wrap (a1)))) (IntKind.u64.wrap (a1))) a0_0))
theorem roll_Below.mono_l : ∀ k, (∀ y0 y1 y2, LeO (roll_Below.l0 k y0 y1 y2) (roll_Below.l0 (k + 1) y0 y1 y2))
  | 0 => fun _ _ _ r h => by simp [roll_Below.l0] at h
  | k + 1 => by
    have ih0 := roll_Below.mono_l k
    · intro y0 y1 y2
      unfold roll_Below.l0
      repeat' first
      | (with_reducible first | apply ih0 | exact LeO.refl _ | exact LeO.none _ | refine LeO.ite ?_ ?_ | refine LeO.bind ?_ (fun _ => ?_))
theorem roll_Below.mono : ∀ a0 a1 k, LeO (roll_Below.f k a0 a1) (roll_Below.f (k + 1) a0 a1) := by
  intro a0 a1 k; have ih0 := roll_Below.mono_l k
  unfold roll_Below.f
  repeat' first
      | (with_reducible first | apply ih0 | exact LeO.refl _ | exact LeO.none _ | refine LeO.ite ?_ ?_ | refine LeO.bind ?_ (fun _ => ?_))
set_option maxHeartbeats 8000000 in
set_option maxRecDepth 100000 in
theorem roll_Below.calls (k : Nat) (a0_0 : Int) (a1 : Int) (r1 : Int) (r2 : Int) (w : World) (h : roll_Below.f k a0_0 a1 = some (r1, r2)) :
    Calls Tryz.prog 16 #[.agg #[.int .u64 a0_0], .int .i64 a1] w fun e w' => e = .returned (.tuple #[.int .i64 r1, .agg #[.int .u64 r2]]) ∧ Below w.heap.size w w' := by
 have hu47 := Tryz.underlying47; have HB := Aside0.mk (Below.refl w.heap.size w); have H : (if a1 < 1 then (some (0, a0_0)) else (if (IntKind.u64.wrap (a1)) = 0 then (none) else (roll_Below.l0 k (IntKind.u64.wrap (a1)) (Int.tmod (IntKind.u64.wrap (-(IntKind.u64.wrap (a1)))) (IntKind.u64.wrap (a1))) a0_0))) = some (r1, r2) := h; clear h
 by_cases c3 : a1 < 1
 ·rw [if_pos c3] at H; have c3b0 : decide (a1 < 1) = true := decide_eq_true c3; clear c3; simp only [Option.some.injEq, Prod.mk.injEq] at H; obtain ⟨rfl, rfl⟩ := H
  go_enter Tryz.func16, Tryz.ntmps16
  try go_wp2_with (first | ((with_reducible refine gate_dst (N := 2) rfl ?_); refine bx_ (N := 2) (cs := #[.int .u64 a0_0]) (t := 47) ?_; intro gb104 hg w4 hbox hb; have BK104 := Aside0.mk (hbox); have GW104 := Aside0.mk ((dS_ hg (dL_ HB) : w.heap.size ≤ gb104)); have GE104 := GW104; replace HB := Aside0.mk (below_step (dL_ HB) hb); clear hb hbox hg) | ((with_reducible refine gate_dst (N := 5) rfl ?_); refine bx_ (N := 5) (cs := #[.int .u64 0]) (t := 47) ?_; intro gb105 hg w5 hbox hb; have BK105 := Aside0.mk (hbox); have GW105 := Aside0.mk ((dS_ hg (dL1_ HB GE104) : w.heap.size ≤ gb105)); have GE105 := GW105; replace HB := Aside0.mk (below_step (dL1_ HB GE104) hb); have NB104_105 := nb_ hg BK104; have NB105_104 := nc_ hg BK104; replace BK104 := bk_ BK104 hb; clear hb hbox hg))
  replace BK104 := Aside0.mk (blk_drew BK104.out); replace BK105 := Aside0.mk (blk_drew BK105.out); replace HB := Aside0.mk (below_drew1 HB.out); refine start_ (n := 3) (S := fun w' => w'.cell? ⟨gb104, 0, none⟩ = some (.int .u64 a0_0)) (ds := []) #[false, false, false] (by kernel_rfl) rfl rfl ((blk_cell BK104.out 0).trans rfl) (fun hHeld => ?_); generalize w5.drew = w6 at BK104 BK105 HB hHeld ⊢; refine pure_ (i := 1) (N := some 4) (v := ?_) (a' := ?_) #[false, true, false] rfl rfl (by kernel_rfl) (fun _ _ _ h => h) (Or.inl ⟨by rfl, ?_⟩) ?_ ?_; rotate_left; (intro w'; go_simp; with_reducible rfl); rotate_left; (simp only [Act.put, sI_, s0_, sS_, i64_w, i32_w]; rfl); refine take_ (i := 0) (N := some 12) (v := ?_) (a' := ?_) #[true, true, false] rfl rfl (by kernel_rfl) (fun _ _ _ h => h) (Or.inl ⟨by rfl, ?_⟩) hHeld ?_ ?_; rotate_left; (intro w' s0; go_simp; with_reducible rfl); rotate_left; (simp only [Act.put, sI_, s0_, sS_, i64_w, i32_w]; rfl); refine one_ (i := 2) (N := none) #[true, true, true] rfl rfl (by kernel_rfl) (by decide) (fun K hK => ?_); have hs7 : w6.cell? ⟨gb105, 0, none⟩ = some (.int .u64 0) := (blk_cell BK105.out 0).trans rfl; have hfs7 := blk_frozen BK105.out 0; have hns7_0 := NB104_105.out; have hms7_0 := NB105_104.out; refine skip_ (w1 := ?_) (by rfl) rfl ?_ ?_
  rotate_left
  ·go_simp
   rfl
  refine hK.out _ _ (((cell_far (p := ⟨gb105, _, none⟩) NB104_105.out _).trans (hHeld))) (fun hHeld => ?_); clear hK K; refine done_ (by kernel_rfl) ?_
  try go_wp2
  refine bodyPost_ret (results_tc rfl _ _ gb105 47 #[.int .u64 a0_0] (0, 0) _ rfl (bz_ BK105) Tryz.underlying47 rfl (by kernel_rfl)) rfl ?_; exact ⟨tE_, dL2_ HB GE104 GE105⟩
 ·rw [if_neg c3] at H; have c3b0 : decide (a1 < 1) = false := decide_eq_false c3; clear c3
  by_cases c8 : (IntKind.u64.wrap (a1)) = 0
  ·rw [if_pos c8] at H; exact absurd H (by simp)
  ·rw [if_neg c8] at H; have c8b0 : ((IntKind.u64.wrap (a1)) == 0) = false := beq_eq_false_iff_ne.mpr c8; have c8b1 : ((IntKind.u64.wrap (a1)) != 0) = true := bne_iff_ne.mpr c8; have H' := Aside0.mk H; clear H
   go_enter Tryz.func16, Tryz.ntmps16
   go_wp2_with (first | ((with_reducible refine gate_dst (N := 2) rfl ?_); refine bx_ (N := 2) (cs := #[.int .u64 a0_0]) (t := 47) ?_; intro gb104 hg w9 hbox hb; have BK104 := Aside0.mk (hbox); have GW104 := Aside0.mk ((dS_ hg (dL_ HB) : w.heap.size ≤ gb104)); have GE104 := GW104; replace HB := Aside0.mk (below_step (dL_ HB) hb); clear hb hbox hg) | ((with_reducible refine gate_dst (N := 5) rfl ?_); refine bx_ (N := 5) (cs := #[.int .u64 0]) (t := 47) ?_; intro gb105 hg w10 hbox hb; have BK105 := Aside0.mk (hbox); have GW105 := Aside0.mk ((dS_ hg (dL1_ HB GE104) : w.heap.size ≤ gb105)); have GE105 := GW105; replace HB := Aside0.mk (below_step (dL1_ HB GE104) hb); have NB104_105 := nb_ hg BK104; have NB105_104 := nc_ hg BK104; replace BK104 := bk_ BK104 hb; clear hb hbox hg))
   go_loopg [] k (fun kq w' => ∃ (x105000_1 : Int) (x106000_1 : Int), Aside0 (roll_Below.l0 kq (IntKind.u64.wrap (a1)) (Int.tmod (IntKind.u64.wrap (-(IntKind.u64.wrap (a1)))) (IntKind.u64.wrap (a1))) x105000_1 = some (r1, r2)) ∧ Aside0 (kq ≤ k) ∧ Aside0 (w'.heap[gb104]? = some (.cells #[.int .u64 x105000_1] 47 (0, 0))) ∧ Aside0 (w'.heap[gb105]? = some (.cells #[.int .u64 x106000_1] 47 (0, 0))) ∧ Aside0 (Below w.heap.size w w'))
   case atStart => exact ⟨(a0_0), (0), H', ⟨Nat.le_refl _⟩, ⟨dB_ BK104⟩, ⟨dB_ BK105⟩, ⟨dL2_ HB GE104 GE105⟩⟩
   case round =>
    clear H'; (try clear c3); (try clear c3b0); (try clear c8); (try clear c8b0); (try clear c8b1); obtain ⟨x105000_1, x106000_1, HA, HK1, BK104, BK105, HB⟩ := hrel
    cases gk with
    | zero => exact absurd HA.out (by simp [roll_Below.l0])
    | succ k1 =>
     have H := HA.out; clear HA; simp only [roll_Below.l0] at H; replace H := Option.bind_eq_some_iff.mp H; obtain ⟨⟨t106, t107⟩, A110, H⟩ := H; have A11 := Aside0.mk A110; clear A110
     by_cases c12 : t106 ≤ (Go.bits .xor .u64 IntKind.u64.max (Int.tmod (IntKind.u64.wrap (-(IntKind.u64.wrap (a1)))) (IntKind.u64.wrap (a1))))
     ·rw [if_pos c12] at H; have c12b0 : decide (t106 ≤ (Go.bits .xor .u64 IntKind.u64.max (Int.tmod (IntKind.u64.wrap (-(IntKind.u64.wrap (a1)))) (IntKind.u64.wrap (a1))))) = true := decide_eq_true c12; clear c12
      by_cases c13 : (IntKind.u64.wrap (a1)) = 0
      ·rw [if_pos c13] at H; exact absurd H (by simp)
      ·rw [if_neg c13] at H; have c13b0 : ((IntKind.u64.wrap (a1)) == 0) = false := beq_eq_false_iff_ne.mpr c13; have c13b1 : ((IntKind.u64.wrap (a1)) != 0) = true := bne_iff_ne.mpr c13; simp only [Option.some.injEq, Prod.mk.injEq] at H; obtain ⟨rfl, rfl⟩ := H; have hnb14 := NB104_105.out; have hnc14 := NB105_104.out; have z15a : wr.cell? ⟨gb104, 0, none⟩ = some (.int .u64 x105000_1) := (blk_cell BK104.out 0).trans rfl; have y15a := blk_frozen BK104.out 0
       try go_wp2_with (first | ((with_reducible refine gate_callee (f := 32) rfl ?_); refine gL_ (some 21) Tryz.func32 #[.agg #[.int .u64 x105000_1]] ?_ rfl; (with_reducible refine (roll_Next.calls x105000_1 t106 t107 _ A11.out).mono ?_); rintro e w16 ⟨rfl, hb⟩; refine ⟨_, rfl, ?_⟩; replace BK104 := bk_ BK104 hb; replace BK105 := bk_ BK105 hb; replace HB := Aside0.mk (below_step (dL2_ HB GE104 GE105) hb)) | ((with_reducible refine gate_dst (N := 9) rfl ?_); refine bx_ (N := 9) (cs := #[.int .u64 0]) (t := 47) ?_; intro gb108 hg w17 hbox hb; have BK108 := Aside0.mk (hbox); have GW108 := Aside0.mk ((dS_ hg (dL2_ HB GE104 GE105) : w.heap.size ≤ gb108)); have GE108 := GW108; replace HB := Aside0.mk (below_step (dL2_ HB GE104 GE105) hb); have NB104_108 := nb_ hg BK104; have NB108_104 := nc_ hg BK104; replace BK104 := bk_ BK104 hb; have NB105_108 := nb_ hg BK105; have NB108_105 := nc_ hg BK105; replace BK105 := bk_ BK105 hb; clear hb hbox hg; have hnb18 := NB108_104.out; have hnc18 := NB104_108.out; have hnb19 := NB108_105.out; have hnc19 := NB105_108.out; have z20a : w17.cell? ⟨gb108, 0, none⟩ = some (.int .u64 0) := (blk_cell BK108.out 0).trans rfl; have y20a := blk_frozen BK108.out 0; have z21a : w17.cell? ⟨gb104, 0, none⟩ = some (.int .u64 x105000_1) := (blk_cell BK104.out 0).trans rfl; have y21a := blk_frozen BK104.out 0))
       generalize hW_ : ((w17.setCell ⟨gb108, 0, none⟩ (.int .u64 t107)).setCell ⟨gb104, 0, none⟩ (.int .u64 t107)) = w22; replace BK104 : Aside0 (w22.heap[gb104]? = some (.cells #[.int .u64 t107] 47 (0, 0))) := hp_ hW_ (bz_ BK104); replace BK105 := bw_ hW_ BK105; replace BK108 : Aside0 (w22.heap[gb108]? = some (.cells #[.int .u64 t107] 47 (0, 0))) := hp_ hW_ (bz_ BK108); replace HB := hb_ hW_ HB; clear hW_; replace BK104 := Aside0.mk (blk_drew BK104.out); replace BK105 := Aside0.mk (blk_drew BK105.out); replace BK108 := Aside0.mk (blk_drew BK108.out); replace HB := Aside0.mk (below_drew1 HB.out); refine start_ (n := 7) (S := fun w' => w'.cell? ⟨gb104, 0, none⟩ = some (.int .u64 t107)) (ds := []) #[false, false, false, false, false, false, false] (by kernel_rfl) rfl rfl ((blk_cell BK104.out 0).trans rfl) (fun hHeld => ?_); generalize w22.drew = w23 at BK104 BK105 BK108 HB hHeld ⊢; refine pure_ (i := 0) (N := some 29) (v := ?_) (a' := ?_) (bA 1 7) rfl rfl (by kernel_rfl) (fun _ _ _ h => h) (Or.inl ⟨by rfl, ?_⟩) ?_ ?_; rotate_left; (intro w'; go_simp; with_reducible rfl); rotate_left; (simp only [Act.put, sI_, s0_, sS_, i64_w, i32_w]; rfl); refine pure_ (i := 1) (N := some 30) (v := ?_) (a' := ?_) (bA 2 7) rfl rfl (by kernel_rfl) (fun _ _ _ h => h) (Or.inl ⟨by rfl, ?_⟩) ?_ ?_; rotate_left; (intro w'; go_simp; with_reducible rfl); rotate_left; (simp only [Act.put, sI_, s0_, sS_, i64_w, i32_w]; rfl); refine pure_ (i := 2) (N := some 31) (v := ?_) (a' := ?_) (bA 3 7) rfl rfl (by kernel_rfl) (fun _ _ _ h => h) (Or.inl ⟨by rfl, ?_⟩) ?_ ?_; rotate_left; (intro w'; go_simp; with_reducible rfl); rotate_left; (simp only [Act.put, sI_, s0_, sS_, i64_w, i32_w]; rfl); refine pure_ (i := 3) (N := some 32) (v := ?_) (a' := ?_) (bA 4 7) rfl rfl (by kernel_rfl) (fun _ _ _ h => h) (Or.inl ⟨by rfl, ?_⟩) ?_ ?_; rotate_left; (intro w'; go_simp; with_reducible rfl); rotate_left; (simp only [Act.put, sI_, s0_, sS_, i64_w, i32_w]; rfl); refine pure_ (i := 5) (N := some 4) (v := ?_) (a' := ?_) #[true, true, true, true, false, true, false] rfl rfl (by kernel_rfl) (fun _ _ _ h => h) (Or.inl ⟨by rfl, ?_⟩) ?_ ?_; rotate_left; (intro w'; go_simp; with_reducible rfl); rotate_left; (simp only [Act.put, sI_, s0_, sS_, i64_w, i32_w]; rfl); refine take_ (i := 4) (N := some 33) (v := ?_) (a' := ?_) (bA 6 7) rfl rfl (by kernel_rfl) (fun _ _ _ h => h) (Or.inl ⟨by rfl, ?_⟩) hHeld ?_ ?_; rotate_left; (intro w' s0; go_simp; with_reducible rfl); rotate_left; (simp only [Act.put, sI_, s0_, sS_, i64_w, i32_w]; rfl)
       refine one_ (i := 6) (N := none) (bA 7 7) rfl rfl (by kernel_rfl) (by decide) (fun K hK => ?_); have hs24 : w23.cell? ⟨gb105, 0, none⟩ = some (.int .u64 x106000_1) := (blk_cell BK105.out 0).trans rfl; have hfs24 := blk_frozen BK105.out 0; have hns24_0 := NB104_105.out; have hns24_2 := NB108_105.out; have hms24_0 := NB105_104.out; have hms24_2 := NB105_108.out; refine skip_ (w1 := ?_) (by rfl) rfl ?_ ?_
       rotate_left
       ·go_simp
        rfl
       refine hK.out _ _ (((cell_far (p := ⟨gb105, _, none⟩) NB104_105.out _).trans (hHeld))) (fun hHeld => ?_); clear hK K; refine done_ (by kernel_rfl) ?_
       try go_wp2
       refine bodyPost_ret (results_tc rfl _ _ gb105 47 #[.int .u64 t107] (0, 0) _ rfl (bz_ BK105) Tryz.underlying47 rfl (by kernel_rfl)) rfl ?_; exact ⟨tE_, dL3_ HB GE104 GE105 GE108⟩
     ·rw [if_neg c12] at H; have c12b0 : decide (t106 ≤ (Go.bits .xor .u64 IntKind.u64.max (Int.tmod (IntKind.u64.wrap (-(IntKind.u64.wrap (a1)))) (IntKind.u64.wrap (a1))))) = false := decide_eq_false c12; clear c12; have H' := Aside0.mk H; clear H; have hnb25 := NB104_105.out; have hnc25 := NB105_104.out; have z26a : wr.cell? ⟨gb104, 0, none⟩ = some (.int .u64 x105000_1) := (blk_cell BK104.out 0).trans rfl; have y26a := blk_frozen BK104.out 0
      go_wp2_with (first | ((with_reducible refine gate_callee (f := 32) rfl ?_); refine gL_ (some 21) Tryz.func32 #[.agg #[.int .u64 x105000_1]] ?_ rfl; (with_reducible refine (roll_Next.calls x105000_1 t106 t107 _ A11.out).mono ?_); rintro e w27 ⟨rfl, hb⟩; refine ⟨_, rfl, ?_⟩; replace BK104 := bk_ BK104 hb; replace BK105 := bk_ BK105 hb; replace HB := Aside0.mk (below_step (dL2_ HB GE104 GE105) hb)) | ((with_reducible refine gate_dst (N := 9) rfl ?_); refine bx_ (N := 9) (cs := #[.int .u64 0]) (t := 47) ?_; intro gb108 hg w28 hbox hb; have BK108 := Aside0.mk (hbox); have GW108 := Aside0.mk ((dS_ hg (dL2_ HB GE104 GE105) : w.heap.size ≤ gb108)); have GE108 := GW108; replace HB := Aside0.mk (below_step (dL2_ HB GE104 GE105) hb); have NB104_108 := nb_ hg BK104; have NB108_104 := nc_ hg BK104; replace BK104 := bk_ BK104 hb; have NB105_108 := nb_ hg BK105; have NB108_105 := nc_ hg BK105; replace BK105 := bk_ BK105 hb; clear hb hbox hg; have hnb29 := NB108_104.out; have hnc29 := NB104_108.out; have hnb30 := NB108_105.out; have hnc30 := NB105_108.out; have z31a : w28.cell? ⟨gb108, 0, none⟩ = some (.int .u64 0) := (blk_cell BK108.out 0).trans rfl; have y31a := blk_frozen BK108.out 0; have z32a : w28.cell? ⟨gb104, 0, none⟩ = some (.int .u64 x105000_1) := (blk_cell BK104.out 0).trans rfl; have y32a := blk_frozen BK104.out 0))
      go_roundg k1
      case measure => have := HK1.out; omega
      case rel => exact ⟨(t107), (x106000_1), H', ⟨by have := HK1.out; omega⟩, ⟨bz_ BK104⟩, ⟨bz_ BK105⟩, ⟨dL3_ HB GE104 GE105 GE108⟩⟩

end Go.Proofs.YtldbkigenaakkaaGreatDoor.Q
namespace Go.Proofs.YtldbkigenaakkaaGreatDoor.Q
open Go.RowKit Go.Proofs.YtldbkigenaakkaaGreatDoorPrs Go.Proofs.YtldbkigenaakkaaGreatDoorOwn Go.Proofs.YtldbkigenaakkaaGreatDoorW.PrintWords Go.Proofs.YtldbkigenaakkaaGreatDoorW.PrintLast Go.Proofs.YtldbkigenaakkaaGreatDoorW.PrintMore
attribute [local go_sem] max2_int min2_int max_two min_two max_three min_three max_four min_four   -- for this text's walks alone
set_option linter.unusedVariables false
set_option linter.unusedSimpArgs false

/-! ### land_beside: function 33 -/
mutual
def land_beside.j0 : Nat → Int → Int → Int → List Int → Option (List Int)
  | 0, _, _, _, _ => none
  | k + 1, x0, x1, x2, x7 => if x1 = 0 then (none) else (if (Int.tmod x0 x1) > 0 then (if x7.length < 17592186044416 then (land_beside.j1 k x0 x1 x2 (x7 ++ [wrap64 (x0 - 1)])) else (none)) else (land_beside.j1 k x0 x1 x2 x7))
def land_beside.j1 : Nat → Int → Int → Int → List Int → Option (List Int)
  | 0, _, _, _, _ => none
  | k + 1, x0, x1, x2, x7 => if x1 = 0 then (none) else (if (wrap64 ((wrap64 (Int.tdiv x0 x1)) + 1)) < x2 then (if x7.length < 17592186044416 then (land_beside.j2 k x0 x1 (x7 ++ [wrap64 (x0 + x1)])) else (none)) else (land_beside.j2 k x0 x1 x7))
def land_beside.j2 : Nat → Int → Int → List Int → Option (List Int)
  | 0, _, _, _ => none
  | k + 1, x0, x1, x7 => if x1 = 0 then (none) else (if (wrap64 (Int.tdiv x0 x1)) > 0 then (if x7.length < 17592186044416 then (some (x7 ++ [wrap64 (x0 - x1)])) else (none)) else (some x7))
end
def land_beside.f (k : Nat) (a0 : Int) (a1 : Int) (a2 : Int) : Option (List Int) := if a1 = 0 then (none) else (if (wrap64 ((Int.tmod a0 a1) + 1)) < a1 then (if ([] : List Int).length < 17592186044416 then (land_beside.j0 k a0 a1 a2 (([] : List Int) ++ [wrap64 (a0 + 1)])) else (none)) else (land_beside.j0 k a0 a1 a2 ([] : List Int)))
theorem land_beside.mono_l : ∀ k, (∀ y0 y1 y2 y3, LeO (land_beside.j0 k y0 y1 y2 y3) (land_beside.j0 (k + 1) y0 y1 y2 y3)) ∧ (∀ y0 y1 y2 y3, LeO (land_beside.j1 k y0 y1 y2 y3) (land_beside.j1 (k + 1) y0 y1 y2 y3)) ∧ (∀ y0 y1 y2, LeO (land_beside.j2 k y0 y1 y2) (land_beside.j2 (k + 1) y0 y1 y2))
  | 0 => ⟨fun _ _ _ _ r h => by simp [land_beside.j0] at h, fun _ _ _ _ r h => by simp [land_beside.j1] at h, fun _ _ _ r h => by simp [land_beside.j2] at h⟩
  | k + 1 => by
    obtain ⟨ih0, ih1, ih2⟩ := land_beside.mono_l k; refine ⟨?_, ?_, ?_⟩
    · intro y0 y1 y2 y3
      unfold land_beside.j0
      repeat' first
      | (with_reducible first | apply ih0 | apply ih1 | apply ih2 | exact LeO.refl _ | exact LeO.none _ | refine LeO.ite ?_ ?_ | refine LeO.bind ?_ (fun _ => ?_))
    · intro y0 y1 y2 y3
      unfold land_beside.j1
      repeat' first
      | (with_reducible first | apply ih0 | apply ih1 | apply ih2 | exact LeO.refl _ | exact LeO.none _ | refine LeO.ite ?_ ?_ | refine LeO.bind ?_ (fun _ => ?_))
    · intro y0 y1 y2
      unfold land_beside.j2
      repeat' first
      | (with_reducible first | apply ih0 | apply ih1 | apply ih2 | exact LeO.refl _ | exact LeO.none _ | refine LeO.ite ?_ ?_ | refine LeO.bind ?_ (fun _ => ?_))
theorem land_beside.mono : ∀ a0 a1 a2 k, LeO (land_beside.f k a0 a1 a2) (land_beside.f (k + 1) a0 a1 a2) := by
  intro a0 a1 a2 k; obtain ⟨ih0, ih1, ih2⟩ := land_beside.mono_l k
  unfold land_beside.f
  repeat' first
      | (with_reducible first | apply ih0 | apply ih1 | apply ih2 | exact LeO.refl _ | exact LeO.none _ | refine LeO.ite ?_ ?_ | refine LeO.bind ?_ (fun _ => ?_))
set_option maxHeartbeats 8000000 in
set_option maxRecDepth 100000 in
theorem land_beside.calls (k : Nat) (a0 : Int) (a1 : Int) (a2 : Int) (r : List Int) (w : World) (h : land_beside.f k a0 a1 a2 = some r) :
    Calls Tryz.prog 33 #[.int .i64 a0, .int .i64 a1, .int .i64 a2] w fun e w' => ∃ v0_ : Value, e = .returned (v0_) ∧ Kd.R (Kd.int .i64) 3 w' w.heap.size (fun _ => True) v0_ r ∧ Below w.heap.size w w' := by
 have HB := Aside0.mk (Below.refl w.heap.size w); have H : (if a1 = 0 then (none) else (if (wrap64 ((Int.tmod a0 a1) + 1)) < a1 then (if ([] : List Int).length < 17592186044416 then (land_beside.j0 k a0 a1 a2 (([] : List Int) ++ [wrap64 (a0 + 1)])) else (none)) else (land_beside.j0 k a0 a1 a2 ([] : List Int)))) = some r := h; clear h
 by_cases c4 : a1 = 0
 ·rw [if_pos c4] at H; exact absurd H (by simp)
 ·rw [if_neg c4] at H; have c4b0 : (a1 == 0) = false := beq_eq_false_iff_ne.mpr c4; have c4b1 : (a1 != 0) = true := bne_iff_ne.mpr c4; have HC5 := Aside0.mk H; clear H
  go_enter Tryz.func33, Tryz.ntmps33
  go_upto_if 13 with (fail)
  go_cut [7] (fun v7 wc => ∃ (kq : Nat) (x7_4 : List Int), Aside0 (land_beside.j0 kq a0 a1 a2 x7_4 = some r) ∧ Aside0 (kq ≤ k) ∧ Aside0 (Kd.R (Kd.int .i64) 3 wc w.heap.size (fun _ => True) v7 x7_4) ∧ Aside0 (Below w.heap.size w wc))
  case first =>
   have H := HC5.out; clear HC5
   by_cases c6 : (wrap64 ((Int.tmod a0 a1) + 1)) < a1
   ·rw [if_pos c6] at H; have c6b0 : decide ((wrap64 ((Int.tmod a0 a1) + 1)) < a1) = true := decide_eq_true c6; clear c6
    (first | rw [c6b0] | (simp only [i64_w, i32_w]; rw [c6b0]) | skip)
    by_cases c7 : ([] : List Int).length < 17592186044416
    ·rw [if_pos c7] at H; have LMc7 := Aside0.mk c7; clear c7; obtain ⟨y109, hy109⟩ : ∃ y_ : List Int, y_ = (([] : List Int) ++ [wrap64 (a0 + 1)]) := ⟨_, rfl⟩; replace H : (land_beside.j0 k a0 a1 a2 y109) = some r := by first | (rw [hy109]; with_reducible exact H) | (have H2_ := (Option.bind_some _ _).symm.trans H; rw [hy109]; with_reducible exact H2_) | (have H2_ := (Option.bind_some _ _).symm.trans H; with_reducible exact H2_) | with_reducible exact H | (rw [hy109]; exact H) | exact H
     have Ny109 := Aside0.mk hy109; clear hy109; have H' := Aside0.mk H; clear H
     go_wp2_with (first | ((with_reducible refine gate_builtin (b := .append) (xs := #[.tmp 14, .tmp 17]) rfl ?_); at_builtin; refine Kd.R_append (Kd.int .i64) (w0 := w) w.heap.size rfl (.tmp 14) (.tmp 17) 24 3 (.int .i64 0) 8 rfl Tryz.underlying24 info3 rfl (by decide) (by omega) (.slice none 0 0) ([] : List Int) (wrap64 (a0 + 1)) [.int .i64 (wrap64 (a0 + 1))] (fun _ => True) (fun _ => False) rfl rfl ?aP (fun _ hk => hk.elim) ?aF ?aO ?aB ?aS ?aL ?_; (case aP => exact rfl); (case aB => exact (dL_ HB)); (case aF => exact (fun _ _ => trivial)); (case aO => exact ((Kd.R_nil _ _ _ _ (fun _ => True)))); (case aS => exact (below_size (dL_ HB))); (case aL => have := LMc7.out; omega); intro v110 w8 ho hb hg hat; rw [← Ny109.out] at ho; replace HB := Aside0.mk (hb); have HO111 := Aside0.mk (ho); clear ho hb hg hat))
     go_meet
     case rel => exact ⟨_, (y109), H', ⟨by first | omega | exact Nat.le_refl _⟩, ⟨dR_ HO111⟩, ⟨dL_ HB⟩⟩
    ·rw [if_neg c7] at H; exact absurd H (by simp)
   ·rw [if_neg c6] at H; have c6b0 : decide ((wrap64 ((Int.tmod a0 a1) + 1)) < a1) = false := decide_eq_false c6; clear c6
    (first | rw [c6b0] | (simp only [i64_w, i32_w]; rw [c6b0]) | skip)
    have H' := Aside0.mk H; clear H; go_wp2
    go_meet
    case rel => exact ⟨_, (([] : List Int)), H', ⟨by first | omega | exact Nat.le_refl _⟩, ⟨by first | exact Kd.R_nil _ _ _ _ _ | exact Kd.N_nil _ _ _ _ _ | exact Kd.V_nil _ _ _ _ _ | exact Kd.Q_nil _ _ _ _ _ | exact Kd.S_nil _ _ _ _ _⟩, ⟨dL_ HB⟩⟩
  case rest =>
   clear HC5; (try clear c4); (try clear c4b0); (try clear c4b1); (try clear c6); (try clear c7); obtain ⟨kq, x7_4, HA, HJ4, HO_7, HB⟩ := hcut
   cases kq with
   | zero => exact absurd HA.out (by simp [land_beside.j0])
   | succ kj4 =>
    have H := HA.out; clear HA; simp only [land_beside.j0] at H
    by_cases c9 : a1 = 0
    ·rw [if_pos c9] at H; exact absurd H (by simp)
    ·rw [if_neg c9] at H; have c9b0 : (a1 == 0) = false := beq_eq_false_iff_ne.mpr c9; have c9b1 : (a1 != 0) = true := bne_iff_ne.mpr c9; have HC10 := Aside0.mk H; clear H
     go_upto_if 22 with (fail)
     go_cut [7] (fun v7 wc => ∃ (kq : Nat) (x7_9 : List Int), Aside0 (land_beside.j1 kq a0 a1 a2 x7_9 = some r) ∧ Aside0 (kq ≤ kj4) ∧ Aside0 (Kd.R (Kd.int .i64) 3 wc w.heap.size (fun _ => True) v7 x7_9) ∧ Aside0 (Below w.heap.size w wc))
     case first =>
      have H := HC10.out; clear HC10
      by_cases c11 : (Int.tmod a0 a1) > 0
      ·rw [if_pos c11] at H; have c11b0 : decide (0 < (Int.tmod a0 a1)) = true := decide_eq_true c11; clear c11
       (first | rw [c11b0] | (simp only [i64_w, i32_w]; rw [c11b0]) | skip)
       by_cases c12 : x7_4.length < 17592186044416
       ·rw [if_pos c12] at H; have LMc12 := Aside0.mk c12; clear c12; obtain ⟨y112, hy112⟩ : ∃ y_ : List Int, y_ = (x7_4 ++ [wrap64 (a0 - 1)]) := ⟨_, rfl⟩; replace H : (land_beside.j1 kj4 a0 a1 a2 y112) = some r := by first | (rw [hy112]; with_reducible exact H) | (have H2_ := (Option.bind_some _ _).symm.trans H; rw [hy112]; with_reducible exact H2_) | (have H2_ := (Option.bind_some _ _).symm.trans H; with_reducible exact H2_) | with_reducible exact H | (rw [hy112]; exact H) | exact H
        have Ny112 := Aside0.mk hy112; clear hy112; have H' := Aside0.mk H; clear H
        go_wp2_with (first | ((with_reducible refine gate_builtin (b := .append) (xs := #[.tmp 23, .tmp 26]) rfl ?_); at_builtin; refine Kd.R_append (Kd.int .i64) (w0 := w) w.heap.size rfl (.tmp 23) (.tmp 26) 24 3 (.int .i64 0) 8 rfl Tryz.underlying24 info3 rfl (by decide) (by omega) u7 x7_4 (wrap64 (a0 - 1)) [.int .i64 (wrap64 (a0 - 1))] (fun _ => True) (fun _ => False) rfl rfl ?aP (fun _ hk => hk.elim) ?aF ?aO ?aB ?aS ?aL ?_; (case aP => exact rfl); (case aB => exact (dL_ HB)); (case aF => exact (fun _ _ => trivial)); (case aO => exact (dR_ HO_7)); (case aS => exact (below_size (dL_ HB))); (case aL => have := LMc12.out; omega); intro v113 w13 ho hb hg hat; rw [← Ny112.out] at ho; replace HB := Aside0.mk (hb); have HO114 := Aside0.mk (ho); clear HO_7; clear ho hb hg hat))
        go_meet
        case rel => exact ⟨_, (y112), H', ⟨by have := HJ4.out; first | omega | exact Nat.le_refl _⟩, ⟨dR_ HO114⟩, ⟨dL_ HB⟩⟩
       ·rw [if_neg c12] at H; exact absurd H (by simp)
      ·rw [if_neg c11] at H; have c11b0 : decide (0 < (Int.tmod a0 a1)) = false := decide_eq_false c11; clear c11
       (first | rw [c11b0] | (simp only [i64_w, i32_w]; rw [c11b0]) | skip)
       have H' := Aside0.mk H; clear H; go_wp2
       go_meet
       case rel => exact ⟨_, (x7_4), H', ⟨by have := HJ4.out; first | omega | exact Nat.le_refl _⟩, ⟨dR_ HO_7⟩, ⟨dL_ HB⟩⟩
     case rest =>
      clear HC10; (try clear c4); (try clear c4b0); (try clear c4b1); (try clear c6); (try clear c7); (try clear c9); (try clear c9b0); (try clear c9b1); (try clear c11); (try clear c12); obtain ⟨kq, x7_9, HA, HJ9, HO_7, HB⟩ := hcut
      cases kq with
      | zero => exact absurd HA.out (by simp [land_beside.j1])
      | succ kj9 =>
       have H := HA.out; clear HA; simp only [land_beside.j1] at H
       by_cases c14 : a1 = 0
       ·rw [if_pos c14] at H; exact absurd H (by simp)
       ·rw [if_neg c14] at H; have c14b0 : (a1 == 0) = false := beq_eq_false_iff_ne.mpr c14; have c14b1 : (a1 != 0) = true := bne_iff_ne.mpr c14; have HC15 := Aside0.mk H; clear H
        go_upto_if 33 with (fail)
        go_cut [7] (fun v7 wc => ∃ (kq : Nat) (x7_14 : List Int), Aside0 (land_beside.j2 kq a0 a1 x7_14 = some r) ∧ Aside0 (kq ≤ kj9) ∧ Aside0 (Kd.R (Kd.int .i64) 3 wc w.heap.size (fun _ => True) v7 x7_14) ∧ Aside0 (Below w.heap.size w wc))
        case first =>
         have H := HC15.out; clear HC15
         by_cases c16 : (wrap64 ((wrap64 (Int.tdiv a0 a1)) + 1)) < a2
         ·rw [if_pos c16] at H; have c16b0 : decide ((wrap64 ((wrap64 (Int.tdiv a0 a1)) + 1)) < a2) = true := decide_eq_true c16; clear c16
          (first | rw [c16b0] | (simp only [i64_w, i32_w]; rw [c16b0]) | skip)
          by_cases c17 : x7_9.length < 17592186044416
          ·rw [if_pos c17] at H; have LMc17 := Aside0.mk c17; clear c17; obtain ⟨y115, hy115⟩ : ∃ y_ : List Int, y_ = (x7_9 ++ [wrap64 (a0 + a1)]) := ⟨_, rfl⟩; replace H : (land_beside.j2 kj9 a0 a1 y115) = some r := by first | (rw [hy115]; with_reducible exact H) | (have H2_ := (Option.bind_some _ _).symm.trans H; rw [hy115]; with_reducible exact H2_) | (have H2_ := (Option.bind_some _ _).symm.trans H; with_reducible exact H2_) | with_reducible exact H | (rw [hy115]; exact H) | exact H
           have Ny115 := Aside0.mk hy115; clear hy115; have H' := Aside0.mk H; clear H
           go_wp2_with (first | ((with_reducible refine gate_builtin (b := .append) (xs := #[.tmp 34, .tmp 38]) rfl ?_); at_builtin; refine Kd.R_append (Kd.int .i64) (w0 := w) w.heap.size rfl (.tmp 34) (.tmp 38) 24 3 (.int .i64 0) 8 rfl Tryz.underlying24 info3 rfl (by decide) (by omega) u7 x7_9 (wrap64 (a0 + a1)) [.int .i64 (wrap64 (a0 + a1))] (fun _ => True) (fun _ => False) rfl rfl ?aP (fun _ hk => hk.elim) ?aF ?aO ?aB ?aS ?aL ?_; (case aP => exact rfl); (case aB => exact (dL_ HB)); (case aF => exact (fun _ _ => trivial)); (case aO => exact (dR_ HO_7)); (case aS => exact (below_size (dL_ HB))); (case aL => have := LMc17.out; omega); intro v116 w18 ho hb hg hat; rw [← Ny115.out] at ho; replace HB := Aside0.mk (hb); have HO117 := Aside0.mk (ho); clear HO_7; clear ho hb hg hat))
           go_meet
           case rel => exact ⟨_, (y115), H', ⟨by have := HJ4.out; have := HJ9.out; first | omega | exact Nat.le_refl _⟩, ⟨dR_ HO117⟩, ⟨dL_ HB⟩⟩
          ·rw [if_neg c17] at H; exact absurd H (by simp)
         ·rw [if_neg c16] at H; have c16b0 : decide ((wrap64 ((wrap64 (Int.tdiv a0 a1)) + 1)) < a2) = false := decide_eq_false c16; clear c16
          (first | rw [c16b0] | (simp only [i64_w, i32_w]; rw [c16b0]) | skip)
          have H' := Aside0.mk H; clear H; go_wp2
          go_meet
          case rel => exact ⟨_, (x7_9), H', ⟨by have := HJ4.out; have := HJ9.out; first | omega | exact Nat.le_refl _⟩, ⟨dR_ HO_7⟩, ⟨dL_ HB⟩⟩
        case rest =>
         clear HC15; (try clear c4); (try clear c4b0); (try clear c4b1); (try clear c6); (try clear c7); (try clear c9); (try clear c9b0); (try clear c9b1); (try clear c11); (try clear c12); (try clear c14); (try clear c14b0); (try clear c14b1); (try clear c16); (try clear c17); obtain ⟨kq, x7_14, HA, HJ14, HO_7, HB⟩ := hcut
         cases kq with
         | zero => exact absurd HA.out (by simp [land_beside.j2])
         | succ kj14 =>
          have H := HA.out; clear HA; simp only [land_beside.j2] at H
          by_cases c19 : a1 = 0
          ·rw [if_pos c19] at H; exact absurd H (by simp)
          ·rw [if_neg c19] at H; have c19b0 : (a1 == 0) = false := beq_eq_false_iff_ne.mpr c19; have c19b1 : (a1 != 0) = true := bne_iff_ne.mpr c19
           by_cases c20 : (wrap64 (Int.tdiv a0 a1)) > 0
           ·rw [if_pos c20] at H; have c20b0 : decide (0 < (wrap64 (Int.tdiv a0 a1))) = true := decide_eq_true c20; clear c20
            by_cases c21 : x7_14.length < 17592186044416
            ·rw [if_pos c21] at H; have LMc21 := Aside0.mk c21; clear c21; obtain ⟨y118, hy118⟩ : ∃ y_ : List Int, y_ = (x7_14 ++ [wrap64 (a0 - a1)]) := ⟨_, rfl⟩; replace H : (some y118) = some r := by first | (rw [hy118]; with_reducible exact H) | (have H2_ := (Option.bind_some _ _).symm.trans H; rw [hy118]; with_reducible exact H2_) | (have H2_ := (Option.bind_some _ _).symm.trans H; with_reducible exact H2_) | with_reducible exact H | (rw [hy118]; exact H) | exact H
             have Ny118 := Aside0.mk hy118; clear hy118; obtain rfl := Option.some.inj H
             go_wp2_with (first | ((with_reducible refine gate_builtin (b := .append) (xs := #[.tmp 44, .tmp 48]) rfl ?_); at_builtin; refine Kd.R_append (Kd.int .i64) (w0 := w) w.heap.size rfl (.tmp 44) (.tmp 48) 24 3 (.int .i64 0) 8 rfl Tryz.underlying24 info3 rfl (by decide) (by omega) u7 x7_14 (wrap64 (a0 - a1)) [.int .i64 (wrap64 (a0 - a1))] (fun _ => True) (fun _ => False) rfl rfl ?aP (fun _ hk => hk.elim) ?aF ?aO ?aB ?aS ?aL ?_; (case aP => exact rfl); (case aB => exact (dL_ HB)); (case aF => exact (fun _ _ => trivial)); (case aO => exact (dR_ HO_7)); (case aS => exact (below_size (dL_ HB))); (case aL => have := LMc21.out; omega); intro v119 w22 ho hb hg hat; rw [← Ny118.out] at ho; replace HB := Aside0.mk (hb); have HO120 := Aside0.mk (ho); clear HO_7; clear ho hb hg hat))
             go_ret
             exact ⟨_, tE_, dR_ HO120, dL_ HB⟩
            ·rw [if_neg c21] at H; exact absurd H (by simp)
           ·rw [if_neg c20] at H; have c20b0 : decide (0 < (wrap64 (Int.tdiv a0 a1))) = false := decide_eq_false c20; clear c20; obtain rfl := Option.some.inj H; go_wp2
            go_ret
            exact ⟨_, tE_, dR_ HO_7, dL_ HB⟩

end Go.Proofs.YtldbkigenaakkaaGreatDoor.Q
namespace Go.Proofs.YtldbkigenaakkaaGreatDoor.Q
open Go.RowKit Go.Proofs.YtldbkigenaakkaaGreatDoorPrs Go.Proofs.YtldbkigenaakkaaGreatDoorOwn Go.Proofs.YtldbkigenaakkaaGreatDoorW.PrintWords Go.Proofs.YtldbkigenaakkaaGreatDoorW.PrintLast Go.Proofs.YtldbkigenaakkaaGreatDoorW.PrintMore
attribute [local go_sem] max2_int min2_int max_two min_two max_three min_three max_four min_four   -- for this text's walks alone
set_option linter.unusedVariables false
set_option linter.unusedSimpArgs false

/-! ### land_Settle: function 17 -/
mutual
def land_Settle.j0 : Nat → Int → Int → List Int → Bool → Option (Int × Int × List Int × Int)
  | 0, _, _, _, _ => none
  | k + 1, x0, x1, x2, x30 => if x30 = true then (some (0, 0, ([] : List Int), 1)) else (if 0 ≤ (x2.length : Int) then (if ((x2.length : Int) : Int).toNat ≤ 35184372088832 then (land_Settle.l0 k x0 x1 x2 (x2.length : Int) 0 x0 x1 (List.replicate ((x2.length : Int) : Int).toNat 0)) else (none)) else (none))
def land_Settle.l0 : Nat → Int → Int → List Int → Int → Int → Int → Int → List Int → Option (Int × Int × List Int × Int)
  | 0, _, _, _, _, _, _, _, _ => none
  | k + 1, x0, x1, x38, x39, x40, x127000, x127001, x127002 => if x40 < x39 then (if 0 ≤ x40 then (if x40 < (x38.length : Int) then (if x40 < (x127002.length : Int) then (land_Settle.l0 k x0 x1 x38 x39 (wrap64 (x40 + 1)) x127000 x127001 (x127002.set (x40 : Int).toNat (mn (mx (rd x38 x40) 0) 15))) else (none)) else (none)) else (none)) else (land_Settle.l1 k x1 (wrap64 (x0 + 1)) x127000 x127001 x127002)
def land_Settle.l1 : Nat → Int → Int → Int → Int → List Int → Option (Int × Int × List Int × Int)
  | 0, _, _, _, _, _ => none
  | k + 1, x1, x11, x127000, x127001, x127002 => land_Settle.l2 k x1 x11 x127002 (x127002.length : Int) 0 x127000 x127001 x127002
def land_Settle.l2 : Nat → Int → Int → List Int → Int → Int → Int → Int → List Int → Option (Int × Int × List Int × Int)
  | 0, _, _, _, _, _, _, _, _ => none
  | k + 1, x1, x11, x56, x57, x58, x127000, x127001, x127002 => if x58 < x57 then (if 0 ≤ x58 then (if x58 < (x56.length : Int) then ((land_beside.f k x58 x11 (wrap64 (x1 + 1))).bind fun t130 => (land_Settle.l3 k x1 x11 x58 (rd x56 x58) (rd x56 x58) x56 x57 x58 t130 (t130.length : Int) 0 x127000 x127001 x127002)) else (none)) else (none)) else (some (x127000, x127001, x127002, 0))
def land_Settle.l3 : Nat → Int → Int → Int → Int → Int → List Int → Int → Int → List Int → Int → Int → Int → Int → List Int → Option (Int × Int × List Int × Int)
  | 0, _, _, _, _, _, _, _, _, _, _, _, _, _, _ => none
  | k + 1, x1, x11, x12, x13, x14, x56, x57, x58, x68, x69, x70, x127000, x127001, x127002 => if x70 < x69 then (if 0 ≤ x70 then (if x70 < (x68.length : Int) then (if 0 ≤ (rd x68 x70) then (if (rd x68 x70) < (x127002.length : Int) then (land_Settle.l3 k x1 x11 x12 x13 (mn x14 (wrap64 ((rd x127002 (rd x68 x70)) + 1))) x56 x57 x58 x68 x69 (wrap64 (x70 + 1)) x127000 x127001 x127002) else (none)) else (none)) else (none)) else (none)) else (if x14 < x13 then (if 0 ≤ x12 then (if x12 < (x127002.length : Int) then (land_Settle.l1 k x1 x11 x127000 x127001 (x127002.set (x12 : Int).toNat x14)) else (none)) else (none)) else (land_Settle.l2 k x1 x11 x56 x57 (wrap64 (x58 + 1)) x127000 x127001 x127002))
end
def land_Settle.f (k : Nat) (a0 : Int) (a1 : Int) (l2 : List Int) : Option (Int × Int × List Int × Int) := (land_sides.f a0 a1).bind fun t122 => (if t122 = true then (land_Settle.j0 k a0 a1 l2 ((l2.length : Int) != (wrap64 ((wrap64 (a0 + 1)) * (wrap64 (a1 + 1)))))) else (land_Settle.j0 k a0 a1 l2 true))
theorem land_Settle.mono_l : ∀ k, (∀ y0 y1 y2 y3, LeO (land_Settle.j0 k y0 y1 y2 y3) (land_Settle.j0 (k + 1) y0 y1 y2 y3)) ∧ (∀ y0 y1 y2 y3 y4 y5 y6 y7, LeO (land_Settle.l0 k y0 y1 y2 y3 y4 y5 y6 y7) (land_Settle.l0 (k + 1) y0 y1 y2 y3 y4 y5 y6 y7)) ∧ (∀ y0 y1 y2 y3 y4, LeO (land_Settle.l1 k y0 y1 y2 y3 y4) (land_Settle.l1 (k + 1) y0 y1 y2 y3 y4)) ∧ (∀ y0 y1 y2 y3 y4 y5 y6 y7, LeO (land_Settle.l2 k y0 y1 y2 y3 y4 y5 y6 y7) (land_Settle.l2 (k + 1) y0 y1 y2 y3 y4 y5 y6 y7)) ∧ (∀ y0 y1 y2 y3 y4 y5 y6 y7 y8 y9 y10 y11 y12 y13, LeO (land_Settle.l3 k y0 y1 y2 y3 y4 y5 y6 y7 y8 y9 y10 y11 y12 y13) (land_Settle.l3 (k + 1) y0 y1 y2 y3 y4 y5 y6 y7 y8 y9 y10 y11 y12 y13))
  | 0 => ⟨fun _ _ _ _ r h => by simp [land_Settle.j0] at h, fun _ _ _ _ _ _ _ _ r h => by simp [land_Settle.l0] at h, fun _ _ _ _ _ r h => by simp [land_Settle.l1] at h, fun _ _ _ _ _ _ _ _ r h => by simp [land_Settle.l2] at h, fun _ _ _ _ _ _ _ _ _ _ _ _ _ _ r h => by simp [land_Settle.l3] at h⟩
  | k + 1 => by
    obtain ⟨ih0, ih1, ih2, ih3, ih4⟩ := land_Settle.mono_l k; refine ⟨?_, ?_, ?_, ?_, ?_⟩
    · intro y0 y1 y2 y3
      unfold land_Settle.j0
      repeat' first
      | (with_reducible first | apply ih0 | apply ih1 | apply ih2 | apply ih3 | apply ih4 | apply land_beside.mono | exact LeO.refl _ | exact LeO.none _ | refine LeO.ite ?_ ?_ | refine LeO.bind ?_ (fun _ => ?_))
    · intro y0 y1 y2 y3 y4 y5 y6 y7
      unfold land_Settle.l0
      repeat' first
      | (with_reducible first | apply ih0 | apply ih1 | apply ih2 | apply ih3 | apply ih4 | apply land_beside.mono | exact LeO.refl _ | exact LeO.none _ | refine LeO.ite ?_ ?_ | refine LeO.bind ?_ (fun _ => ?_))
    · intro y0 y1 y2 y3 y4
      unfold land_Settle.l1
      repeat' first
      | (with_reducible first | apply ih0 | apply ih1 | apply ih2 | apply ih3 | apply ih4 | apply land_beside.mono | exact LeO.refl _ | exact LeO.none _ | refine LeO.ite ?_ ?_ | refine LeO.bind ?_ (fun _ => ?_))
    · intro y0 y1 y2 y3 y4 y5 y6 y7
      unfold land_Settle.l2
      repeat' first
      | (with_reducible first | apply ih0 | apply ih1 | apply ih2 | apply ih3 | apply ih4 | apply land_beside.mono | exact LeO.refl _ | exact LeO.none _ | refine LeO.ite ?_ ?_ | refine LeO.bind ?_ (fun _ => ?_))
    · intro y0 y1 y2 y3 y4 y5 y6 y7 y8 y9 y10 y11 y12 y13
      unfold land_Settle.l3
      repeat' first
      | (with_reducible first | apply ih0 | apply ih1 | apply ih2 | apply ih3 | apply ih4 | apply land_beside.mono | exact LeO.refl _ | exact LeO.none _ | refine LeO.ite ?_ ?_ | refine LeO.bind ?_ (fun _ => ?_))
theorem land_Settle.mono : ∀ a0 a1 a2 k, LeO (land_Settle.f k a0 a1 a2) (land_Settle.f (k + 1) a0 a1 a2) := by
  intro a0 a1 a2 k; obtain ⟨ih0, ih1, ih2, ih3, ih4⟩ := land_Settle.mono_l k
  unfold land_Settle.f
  repeat' first
      | (with_reducible first | apply ih0 | apply ih1 | apply ih2 | apply ih3 | apply ih4 | apply land_beside.mono | exact LeO.refl _ | exact LeO.none _ | refine LeO.ite ?_ ?_ | refine LeO.bind ?_ (fun _ => ?_))
set_option maxHeartbeats 8000000 in
set_option maxRecDepth 100000 in
theorem land_Settle.calls (k : Nat) (a0 : Int) (a1 : Int) (A2 : Option Addr) (c2 : Nat) (l2 : List Int) (r1 : Int) (r2 : Int) (r3 : List Int) (r4 : Int) (w : World) (hr2 : Kd.C (Kd.int .i64) w A2 l2.length l2) (hc2 : l2.length ≤ c2) (h : land_Settle.f k a0 a1 l2 = some (r1, r2, r3, r4)) :
    Calls Tryz.prog 17 #[.int .i64 a0, .int .i64 a1, .slice A2 l2.length c2] w fun e w' => ∃ v2_ : Value, e = .returned (.tuple #[.agg #[.int .i64 r1, .int .i64 r2, v2_], .int .i64 r4]) ∧ Kd.R (Kd.int .i64) 3 w' w.heap.size (fun _ => True) v2_ r3 ∧ Below w.heap.size w w' := by
 have hu26 := Tryz.underlying26; have HR2 := Aside0.mk hr2; have HC2 := Aside0.mk hc2; clear hr2 hc2; have HB := Aside0.mk (Below.refl w.heap.size w); have H : ((land_sides.f a0 a1).bind fun t122 => (if t122 = true then (land_Settle.j0 k a0 a1 l2 ((l2.length : Int) != (wrap64 ((wrap64 (a0 + 1)) * (wrap64 (a1 + 1)))))) else (land_Settle.j0 k a0 a1 l2 true))) = some (r1, r2, r3, r4) := h; clear h; have HC4 := Aside0.mk H; clear H
 go_enter Tryz.func17, Tryz.ntmps17
 go_wp2_with (first | ((with_reducible refine gate_dst (N := 6) rfl ?_); (try (refine gate_guard (by rfl) ?_; dsimp only)); refine bx_ (N := 6) (cs := #[.int .i64 0, .int .i64 0, .slice none 0 0]) (t := 26) ?_; intro gb121 hg w5 hbox hb; have BK121 := Aside0.mk (hbox); have GW121 := Aside0.mk ((dS_ hg (dL_ HB) : w.heap.size ≤ gb121)); have GE121 := GW121; replace HB := Aside0.mk (below_step (dL_ HB) hb); clear hb hbox hg))
 go_step3
 go_upto_region 1 with (fail)
 (try simp only [Act.put, List.setIfInBounds_toArray, List.set_cons_zero, List.set_cons_succ])
 go_cut [30] (fun v30 wc => ∃ (kq : Nat) (x30_3 : Bool), v30 = .bool x30_3 ∧ Aside0 (land_Settle.j0 kq a0 a1 l2 x30_3 = some (r1, r2, r3, r4)) ∧ Aside0 (kq ≤ k) ∧ Aside0 (wc.heap[gb121]? = some (.cells #[.int .i64 0, .int .i64 0, (.slice none 0 0)] 26 (0, 0))) ∧ Aside0 (Below w.heap.size w wc))
 case first =>
  have H := HC4.out; clear HC4; replace H := Option.bind_eq_some_iff.mp H; obtain ⟨t122, A60, H⟩ := H; have A6 := Aside0.mk A60; clear A60
  by_cases c7 : t122 = true
  ·subst c7; rw [if_pos rfl] at H; have H' := Aside0.mk H; clear H
   go_wp2_with (first | ((with_reducible refine gate_callee (f := 14) rfl ?_); refine gL_ (some 19) Tryz.func14 #[.int .i64 a0, .int .i64 a1] ?_ rfl; (with_reducible refine (land_sides.calls a0 a1 true _ A6.out).mono ?_); rintro e w' ⟨rfl, ⟨nd, rfl⟩⟩; refine ⟨_, rfl, ?_⟩))
   go_meet
   case rel => exact ⟨_, (((l2.length : Int) != (wrap64 ((wrap64 (a0 + 1)) * (wrap64 (a1 + 1)))))), tS_, H', ⟨by first | omega | exact Nat.le_refl _⟩, ⟨dB_ BK121⟩, ⟨dL1_ HB GE121⟩⟩
  ·replace c7 := Bool.eq_false_iff.mpr c7; subst c7; rw [if_neg (show ¬ (false = true) by decide)] at H; have H' := Aside0.mk H; clear H
   go_wp2_with (first | ((with_reducible refine gate_callee (f := 14) rfl ?_); refine gL_ (some 19) Tryz.func14 #[.int .i64 a0, .int .i64 a1] ?_ rfl; (with_reducible refine (land_sides.calls a0 a1 false _ A6.out).mono ?_); rintro e w' ⟨rfl, ⟨nd, rfl⟩⟩; refine ⟨_, rfl, ?_⟩))
   go_meet
   case rel => exact ⟨_, (true), tS_, H', ⟨by first | omega | exact Nat.le_refl _⟩, ⟨dB_ BK121⟩, ⟨dL1_ HB GE121⟩⟩
 case rest =>
  clear HC4; (try clear c2); obtain ⟨kq, x30_3, rfl, HA, HJ3, BK121, HB⟩ := hcut
  cases kq with
  | zero => exact absurd HA.out (by simp [land_Settle.j0])
  | succ kj3 =>
   have H := HA.out; clear HA; simp only [land_Settle.j0] at H
   by_cases c8 : x30_3 = true
   ·subst c8; rw [if_pos rfl] at H; simp only [Option.some.injEq, Prod.mk.injEq] at H; obtain ⟨rfl, rfl, rfl, rfl⟩ := H; obtain ⟨z9a, z9b, z9c, y9a, y9b, y9c⟩ := cs3_ BK121.out; go_wp2; (try simp only [Exit.noGoto_ret]); refine bodyPost_ret (results_ct rfl _ _ gb121 26 #[.int .i64 0, .int .i64 0, .slice none 0 0] (0, 0) _ rfl (bz_ BK121) Tryz.underlying26 rfl (by kernel_rfl)) rfl ?_; exact ⟨_, tE_, by first | exact Kd.R_nil _ _ _ _ _ | exact Kd.N_nil _ _ _ _ _ | exact Kd.V_nil _ _ _ _ _ | exact Kd.Q_nil _ _ _ _ _ | exact Kd.S_nil _ _ _ _ _, dL1_ HB GE121⟩
   ·replace c8 := Bool.eq_false_iff.mpr c8; subst c8; rw [if_neg (show ¬ (false = true) by decide)] at H
    by_cases c10 : 0 ≤ (l2.length : Int)
    ·rw [if_pos c10] at H; have c10b0 := eq_true c10; have c10b1 : decide (0 ≤ (l2.length : Int)) = true := decide_eq_true c10; clear c10
     by_cases c11 : ((l2.length : Int) : Int).toNat ≤ 35184372088832
     ·rw [if_pos c11] at H; have c11b0 := eq_true c11; have c11b1 : decide (((l2.length : Int) : Int).toNat ≤ 35184372088832) = true := decide_eq_true c11; clear c11; obtain ⟨y123, hy123⟩ : ∃ y_ : List Int, y_ = (List.replicate ((l2.length : Int) : Int).toNat 0) := ⟨_, rfl⟩; replace H : (land_Settle.l0 kj3 a0 a1 l2 (l2.length : Int) 0 a0 a1 y123) = some (r1, r2, r3, r4) := by first | (rw [hy123]; with_reducible exact H) | (have H2_ := (Option.bind_some _ _).symm.trans H; rw [hy123]; with_reducible exact H2_) | (have H2_ := (Option.bind_some _ _).symm.trans H; with_reducible exact H2_) | with_reducible exact H | (rw [hy123]; exact H) | exact H
      have Ny123 := Aside0.mk hy123; clear hy123; have H' := Aside0.mk H; clear H
      go_wp2_with (first | ((with_reducible refine gate_dst (N := 36) rfl ?_); (try (refine gate_guard (by rfl) ?_; dsimp only)); refine Kd.R_make (Kd.int .i64) _ 3 rfl (N := 36) rfl 24 _ _ rfl (l2.length : Int) rfl rfl Tryz.underlying24 (.int .i64 0) 8 info3 rfl (by decide) (by omega) 0 (ok := fun _ => True) (okp := fun _ => True) rfl (fun _ hk => hk) trivial (of_decide_eq_true tW_) (Nat.le_trans (Nat.mul_le_mul_right _ (of_decide_eq_true tW_ : (l2.length : Int).toNat ≤ 35184372088832)) (by omega)) (Below.refl _ _) (Nat.le_refl _) ?_; intro v124 w12 ho13 hb hg_ hnew_; clear hg_ hnew_; (first | rw [← Ny123.out] at ho13 | (simp only [Int.reduceToNat] at ho13; rw [← Ny123.out] at ho13)); have HO125 := Aside0.mk (Kd.R_lower ho13 (below_size (dL1_ HB GE121))); replace BK121 := bk_ BK121 hb; replace HB := Aside0.mk (below_step (dL1_ HB GE121) hb); clear hb ho13; obtain ⟨Ao14, co14, eo14⟩ := Kd.R_slice HO125.out; subst eo14) | ((with_reducible refine gate_dst (N := 8) rfl ?_); (try (refine gate_guard (by rfl) ?_; dsimp only)); refine bx_ (N := 8) (cs := #[.int .i64 0, .int .i64 0, .slice none 0 0]) (t := 26) ?_; intro gb126 hg w15 hbox hb; replace HO125 := Aside0.mk (Kd.R_below (dR_ HO125) hb); have BK126 := Aside0.mk (hbox); have GW126 := Aside0.mk ((dS_ hg (dL1_ HB GE121) : w.heap.size ≤ gb126)); have GE126 := GW126; replace HB := Aside0.mk (below_step (dL1_ HB GE121) hb); have NB121_126 := nb_ hg BK121; have NB126_121 := nc_ hg BK121; replace BK121 := bk_ BK121 hb; clear hb hbox hg; have hnb16 := NB126_121.out; have hnc16 := NB121_126.out; obtain ⟨z17a, z17b, z17c, y17a, y17b, y17c⟩ := cs3_ BK126.out))
      (try (go_step3; try go_wp2))
      go_loopg [40] kj3 (fun kq v40 w' => ∃ (x40_2 : Int) (x127002_2 : List Int) (u127002 : Value), v40 = .int .i64 x40_2 ∧ Aside0 (land_Settle.l0 kq a0 a1 l2 (l2.length : Int) x40_2 a0 a1 x127002_2 = some (r1, r2, r3, r4)) ∧ Aside0 (kq ≤ kj3) ∧ Aside0 (Kd.R (Kd.int .i64) 3 w' w.heap.size (fun _ => True) u127002 x127002_2) ∧ Aside0 (w'.heap[gb121]? = some (.cells #[.int .i64 0, .int .i64 0, (.slice none 0 0)] 26 (0, 0))) ∧ Aside0 (w'.heap[gb126]? = some (.cells #[.int .i64 a0, .int .i64 a1, u127002] 26 (0, 0))) ∧ Aside0 (Below w.heap.size w w'))
      case atStart => exact ⟨(0), (y123), (.slice Ao14 y123.length co14), tS_, H', ⟨Nat.le_refl _⟩, ⟨by (with_reducible repeat (first | apply Kd.R_alloc | apply Kd.R_drewN | apply Kd.R_drew)); exact Kd.R_mono (fz1_ HO125 BK126) (fun _ hk => trivial)⟩, ⟨bz_ BK121⟩, ⟨bz_ BK126⟩, ⟨dL2_ HB GE121 GE126⟩⟩
      case round =>
       clear H'; (try clear c2); (try clear c8); (try clear c10); (try clear c10b0); (try clear c10b1); (try clear c11); (try clear c11b0); (try clear c11b1); (try clear z17a z17b z17c y17a y17b y17c); obtain ⟨x40_2, x127002_2, u127002, rfl, HA, HK2, HO_127002, BK121, BK126, HB⟩ := hrel
       cases gk with
       | zero => exact absurd HA.out (by simp [land_Settle.l0])
       | succ k2 =>
        have H := HA.out; clear HA; simp only [land_Settle.l0] at H
        by_cases c18 : x40_2 < (l2.length : Int)
        ·rw [if_pos c18] at H; have c18b0 : decide (x40_2 < (l2.length : Int)) = true := decide_eq_true c18; clear c18
         by_cases c19 : 0 ≤ x40_2
         ·rw [if_pos c19] at H; have c19b0 : decide (0 ≤ x40_2) = true := decide_eq_true c19; clear c19
          by_cases c20 : x40_2 < (l2.length : Int)
          ·rw [if_pos c20] at H; have c20b0 : decide (x40_2 < (l2.length : Int)) = true := decide_eq_true c20; clear c20; obtain ⟨ji21, hji21⟩ : ∃ j_ : Int, (mx (rd l2 x40_2) 0) = j_ := ⟨_, rfl⟩; replace H : (if x40_2 < (x127002_2.length : Int) then (land_Settle.l0 k2 a0 a1 l2 (l2.length : Int) (wrap64 (x40_2 + 1)) a0 a1 (x127002_2.set (x40_2 : Int).toNat (mn (ji21) 15))) else (none)) = some (r1, r2, r3, r4) := by first | (rw [hji21] at H; exact H) | (simp only [hji21] at H ⊢; exact H)
           have hji21_ : (if (rd l2 x40_2) < 0 then 0 else (rd l2 x40_2)) = ji21 := hji21; obtain ⟨ji22, hji22⟩ : ∃ j_ : Int, (mn (ji21) 15) = j_ := ⟨_, rfl⟩; replace H : (if x40_2 < (x127002_2.length : Int) then (land_Settle.l0 k2 a0 a1 l2 (l2.length : Int) (wrap64 (x40_2 + 1)) a0 a1 (x127002_2.set (x40_2 : Int).toNat (ji22))) else (none)) = some (r1, r2, r3, r4) := by first | (rw [hji22] at H; exact H) | (simp only [hji22] at H ⊢; exact H)
           have hji22_ : (if 15 < (ji21) then 15 else (ji21)) = ji22 := hji22
           by_cases c23 : x40_2 < (x127002_2.length : Int)
           ·rw [if_pos c23] at H; have c23b0 : decide (x40_2 < (x127002_2.length : Int)) = true := decide_eq_true c23; clear c23; obtain ⟨y128, hy128⟩ : ∃ y_ : List Int, y_ = (x127002_2.set (x40_2 : Int).toNat (ji22)) := ⟨_, rfl⟩; replace H : (land_Settle.l0 k2 a0 a1 l2 (l2.length : Int) (wrap64 (x40_2 + 1)) a0 a1 y128) = some (r1, r2, r3, r4) := by first | (rw [hy128]; with_reducible exact H) | (have H2_ := (Option.bind_some _ _).symm.trans H; rw [hy128]; with_reducible exact H2_) | (have H2_ := (Option.bind_some _ _).symm.trans H; with_reducible exact H2_) | with_reducible exact H | (rw [hy128]; exact H) | exact H
            have Ny128 := Aside0.mk hy128; clear hy128; have H' := Aside0.mk H; clear H; have p127 : 0 ≤ (x40_2 : Int) := of_decide_eq_true tW_; have q127 : x40_2 < (l2.length : Int) := of_decide_eq_true tW_; obtain ⟨ad127, e127, hx127_0⟩ := Kd.at_int HR2.out x40_2 p127 q127; cases e127; replace hx127_0 := bc_ HB hx127_0; replace p127 := eq_true p127; replace q127 := eq_true q127; have hnb25 := NB126_121.out; have hnc25 := NB121_126.out; obtain ⟨z26a, z26b, z26c, y26a, y26b, y26c⟩ := cs3_ BK126.out; have p24 : 0 ≤ (x40_2 : Int) := of_decide_eq_true tW_; have q24 : (x40_2 : Int) < ((x127002_2.length : Int) : Int) := of_decide_eq_true tW_; obtain ⟨go24, co24, eo24, gb24, gl24, cl24, HG24⟩ := Kd.R_form HO_127002.out (by omega)
            (first | cases eo24 | (injection eo24 with ea_ en_ ec_; (first | subst ea_ | (injection ea_ with ea_; subst ea_)); subst ec_; clear en_))
            have GB24 := Aside0.mk gb24; have GG24 := Aside0.mk HG24; clear gb24 gl24 HG24; obtain ⟨hx24_0, hf24_0⟩ := Kd.R_celln 0 HO_127002.out (x40_2 : Int) p24 q24; replace p24 := eq_true p24; replace q24 := eq_true q24; have HP27 := Kd.R_putg HO_127002.out (x40_2 : Int) ji22
            go_wp2_with (first | ((with_reducible refine gate_store (t := 3) (p := 51) rfl ?_); refine store_event (t := 3) (p := 51) (v := ?vo_w28) (w1 := (wr.setCell ⟨go24, (x40_2 : Int).toNat, none⟩ (.int .i64 ji22))) ?hg ?ho ?hn ?hr ?_; (case ho => rfl); (case hg => rfl); (case hn => rfl); (case hr => first | (go_simp; done) | (go_simp; rfl)); intro w28 hw; have hg : wr.grownBy w28 (some go24) := (by rw [hw]; exact HP27.2); have hp_ : Kd.R (Kd.int .i64) 3 w28 w.heap.size (fun _ => True) (.slice (some ⟨go24, 0, none⟩) x127002_2.length co24) y128 := (by rw [hw, Ny128.out]; exact HP27.1); clear HP27; replace BK121 := Aside0.mk (blk_grown (g := gb121) (o := .cells #[.int .i64 0, .int .i64 0, .slice none 0 0] 26 (0, 0)) (dB_ BK121) hg (Kd.R_ne HO_127002.out BK121.out (by decide))); replace BK126 := Aside0.mk (blk_grown (g := gb126) (o := .cells #[.int .i64 a0, .int .i64 a1, .slice (some ⟨go24, 0, none⟩) x127002_2.length co24] 26 (0, 0)) (dB_ BK126) hg (Kd.R_ne HO_127002.out BK126.out (by decide))); replace HO_127002 := Aside0.mk (hp_); replace HB := Aside0.mk ((by rw [hw]; exact below_set (HB.out) GB24.out : Below w.heap.size w w28)); clear hg hw hp_))
            go_roundg k2
            case measure => have := HJ3.out; have := HK2.out; omega
            case rel => exact ⟨(wrap64 (x40_2 + 1)), (y128), (.slice (some ⟨go24, 0, none⟩) x127002_2.length co24), tS_, H', ⟨by have := HJ3.out; have := HK2.out; omega⟩, ⟨dR_ HO_127002⟩, ⟨dB_ BK121⟩, ⟨dB_ BK126⟩, ⟨dL2_ HB GE121 GE126⟩⟩
           ·rw [if_neg c23] at H; exact absurd H (by simp)
          ·rw [if_neg c20] at H; exact absurd H (by simp)
         ·rw [if_neg c19] at H; exact absurd H (by simp)
        ·rw [if_neg c18] at H; have c18b0 : decide (x40_2 < (l2.length : Int)) = false := decide_eq_false c18; clear c18; have H' := Aside0.mk H; clear H; go_wp2; (try (go_step3; try go_wp2))
         go_loopg [] k2 (fun kq w' => ∃ (x122000_3 : Int) (x122001_3 : Int) (x127002_3 : List Int) (u127002 : Value), Aside0 (land_Settle.l1 kq a1 (wrap64 (a0 + 1)) a0 a1 x127002_3 = some (r1, r2, r3, r4)) ∧ Aside0 (kq ≤ k2) ∧ Aside0 (Kd.R (Kd.int .i64) 3 w' w.heap.size (fun _ => True) u127002 x127002_3) ∧ Aside0 (w'.heap[gb121]? = some (.cells #[.int .i64 x122000_3, .int .i64 x122001_3, (.slice none 0 0)] 26 (0, 0))) ∧ Aside0 (w'.heap[gb126]? = some (.cells #[.int .i64 a0, .int .i64 a1, u127002] 26 (0, 0))) ∧ Aside0 (Below w.heap.size w w'))
         case atStart => exact ⟨(0), (0), (x127002_2), (u127002), H', ⟨Nat.le_refl _⟩, ⟨dR_ HO_127002⟩, ⟨dB_ BK121⟩, ⟨dB_ BK126⟩, ⟨dL2_ HB GE121 GE126⟩⟩
         case round =>
          clear H'; (try clear c2); (try clear c8); (try clear c10); (try clear c10b0); (try clear c10b1); (try clear c11); (try clear c11b0); (try clear c11b1); (try clear c18); (try clear c18b0); (try clear c19); (try clear c20); (try clear c23); (try clear z17a z17b z17c y17a y17b y17c); obtain ⟨x122000_3, x122001_3, x127002_3, u127002, HA, HK3, HO_127002, BK121, BK126, HB⟩ := hrel
          cases gk with
          | zero => exact absurd HA.out (by simp [land_Settle.l1])
          | succ k3 =>
           have H := HA.out; clear HA; simp only [land_Settle.l1] at H; have H' := Aside0.mk H; clear H; have hnb29 := NB126_121.out; have hnc29 := NB121_126.out; obtain ⟨z30a, z30b, z30c, y30a, y30b, y30c⟩ := cs3_ BK126.out; obtain ⟨Ao31, co31, eo31⟩ := Kd.R_slice HO_127002.out; subst eo31; go_wp2; (try (go_step3; try go_wp2))
           go_loopg [58] k3 (fun kq v58 w' => ∃ (x58_4 : Int), v58 = .int .i64 x58_4 ∧ Aside0 (land_Settle.l2 kq a1 (wrap64 (a0 + 1)) x127002_3 (x127002_3.length : Int) x58_4 a0 a1 x127002_3 = some (r1, r2, r3, r4)) ∧ Aside0 (kq ≤ k3) ∧ Aside0 (Kd.R (Kd.int .i64) 3 w' w.heap.size (fun _ => True) (.slice Ao31 x127002_3.length co31) x127002_3) ∧ Aside0 (Kd.R (Kd.int .i64) 3 w' w.heap.size (fun _ => True) (.slice Ao31 x127002_3.length co31) x127002_3) ∧ Aside0 (w'.heap[gb121]? = some (.cells #[.int .i64 x122000_3, .int .i64 x122001_3, (.slice none 0 0)] 26 (0, 0))) ∧ Aside0 (w'.heap[gb126]? = some (.cells #[.int .i64 a0, .int .i64 a1, (.slice Ao31 x127002_3.length co31)] 26 (0, 0))) ∧ Aside0 (Below w.heap.size w w'))
           case atStart => exact ⟨(0), tS_, H', ⟨Nat.le_refl _⟩, ⟨dR_ HO_127002⟩, ⟨dR_ HO_127002⟩, ⟨dB_ BK121⟩, ⟨dB_ BK126⟩, ⟨dL2_ HB GE121 GE126⟩⟩
           case round =>
            clear H'; (try clear c2); (try clear c8); (try clear c10); (try clear c10b0); (try clear c10b1); (try clear c11); (try clear c11b0); (try clear c11b1); (try clear c18); (try clear c18b0); (try clear c19); (try clear c20); (try clear c23); (try clear z17a z17b z17c y17a y17b y17c); (try clear z30a z30b z30c y30a y30b y30c); obtain ⟨x58_4, rfl, HA, HK4, HO_56, HO_127002, BK121, BK126, HB⟩ := hrel
            cases gk with
            | zero => exact absurd HA.out (by simp [land_Settle.l2])
            | succ k4 =>
             have H := HA.out; clear HA; simp only [land_Settle.l2] at H
             by_cases c32 : x58_4 < (x127002_3.length : Int)
             ·rw [if_pos c32] at H; have c32b0 : decide (x58_4 < (x127002_3.length : Int)) = true := decide_eq_true c32; clear c32
              by_cases c33 : 0 ≤ x58_4
              ·rw [if_pos c33] at H; have c33b0 : decide (0 ≤ x58_4) = true := decide_eq_true c33; clear c33
               by_cases c34 : x58_4 < (x127002_3.length : Int)
               ·rw [if_pos c34] at H; have c34b0 : decide (x58_4 < (x127002_3.length : Int)) = true := decide_eq_true c34; clear c34; replace H := Option.bind_eq_some_iff.mp H; obtain ⟨t130, A350, H⟩ := H; have A35 := Aside0.mk A350; clear A350; have H' := Aside0.mk H; clear H; have p129 : 0 ≤ (x58_4 : Int) := of_decide_eq_true tW_; have q129 : x58_4 < (x127002_3.length : Int) := of_decide_eq_true tW_; obtain ⟨ad129, e129, hx129_0⟩ := Kd.at_int (Kd.R_reads' HO_56.out).2.2 x58_4 p129 q129; cases e129; replace p129 := eq_true p129; replace q129 := eq_true q129
                go_wp2_with (first | ((with_reducible refine gate_callee (f := 33) rfl ?_); refine gL_ (some 68) Tryz.func33 #[.int .i64 x58_4, .int .i64 (wrap64 (a0 + 1)), .int .i64 (wrap64 (a1 + 1))] ?_ rfl; (with_reducible refine (land_beside.calls k4 x58_4 (wrap64 (a0 + 1)) (wrap64 (a1 + 1)) t130 _ A35.out).mono ?_); rintro e w36 ⟨v131, rfl, ho0, hb⟩; refine ⟨_, rfl, ?_⟩; have HO132 := Aside0.mk (Kd.R_lower (Kd.R_new' (Kd.R_new' ho0 (Kd.R_lt (dR_ HO_56))) (Kd.R_lt (dR_ HO_127002))) (below_size (dL2_ HB GE121 GE126))); replace HO_56 := Aside0.mk (Kd.R_elder' (dR_ HO_56) (Kd.R_base ho0) hb); replace HO_127002 := Aside0.mk (Kd.R_elder' (dR_ HO_127002) (Kd.R_base ho0) hb); replace BK121 := bk_ BK121 hb; replace BK126 := bk_ BK126 hb; replace HB := Aside0.mk (below_step (dL2_ HB GE121 GE126) hb); obtain ⟨Ao37, co37, eo37⟩ := Kd.R_slice HO132.out; subst eo37))
                (try (go_step3; try go_wp2))
                go_loopg [14, 70] k4 (fun kq v14 v70 w' => ∃ (x14_5 : Int) (x70_5 : Int), v14 = .int .i64 x14_5 ∧ v70 = .int .i64 x70_5 ∧ Aside0 (land_Settle.l3 kq a1 (wrap64 (a0 + 1)) x58_4 (rd x127002_3 x58_4) x14_5 x127002_3 (x127002_3.length : Int) x58_4 t130 (t130.length : Int) x70_5 a0 a1 x127002_3 = some (r1, r2, r3, r4)) ∧ Aside0 (kq ≤ k4) ∧ Aside0 (Kd.R (Kd.int .i64) 3 w' w.heap.size (fun k_ => some k_ ≠ ((.slice Ao37 t130.length co37) : Value).ownBlock) (.slice (some ad129) x127002_3.length co31) x127002_3) ∧ Aside0 (Kd.R (Kd.int .i64) 3 w' w.heap.size (fun k_ => some k_ ≠ ((.slice (some ad129) x127002_3.length co31) : Value).ownBlock ∧ some k_ ≠ ((.slice (some ad129) x127002_3.length co31) : Value).ownBlock) (.slice Ao37 t130.length co37) t130) ∧ Aside0 (Kd.R (Kd.int .i64) 3 w' w.heap.size (fun k_ => some k_ ≠ ((.slice Ao37 t130.length co37) : Value).ownBlock) (.slice (some ad129) x127002_3.length co31) x127002_3) ∧ Aside0 (w'.heap[gb121]? = some (.cells #[.int .i64 x122000_3, .int .i64 x122001_3, (.slice none 0 0)] 26 (0, 0))) ∧ Aside0 (w'.heap[gb126]? = some (.cells #[.int .i64 a0, .int .i64 a1, (.slice (some ad129) x127002_3.length co31)] 26 (0, 0))) ∧ Aside0 (Below w.heap.size w w'))
                case atStart => exact ⟨(rd x127002_3 x58_4), (0), tS_, tS_, H', ⟨Nat.le_refl _⟩, ⟨by (with_reducible repeat (first | apply Kd.R_alloc | apply Kd.R_drewN | apply Kd.R_drew)); exact Kd.R_mono HO_56.out (fun _ hk => hk.2)⟩, ⟨by (with_reducible repeat (first | apply Kd.R_alloc | apply Kd.R_drewN | apply Kd.R_drew)); exact Kd.R_mono HO132.out (fun _ hk => ⟨hk.1.2, hk.2⟩)⟩, ⟨by (with_reducible repeat (first | apply Kd.R_alloc | apply Kd.R_drewN | apply Kd.R_drew)); exact Kd.R_mono HO_127002.out (fun _ hk => hk.2)⟩, ⟨dB_ BK121⟩, ⟨dB_ BK126⟩, ⟨dL2_ HB GE121 GE126⟩⟩
                case round =>
                 clear H'; (try clear c2); (try clear c8); (try clear c10); (try clear c10b0); (try clear c10b1); (try clear c11); (try clear c11b0); (try clear c11b1); (try clear c18); (try clear c18b0); (try clear c19); (try clear c20); (try clear c23); (try clear c32); (try clear c32b0); (try clear c33); (try clear c33b0); (try clear c34); (try clear c34b0); (try clear z17a z17b z17c y17a y17b y17c); (try clear z30a z30b z30c y30a y30b y30c); (try clear hx129_0); (try clear p129); (try clear q129); obtain ⟨x14_5, x70_5, rfl, rfl, HA, HK5, HO_56, HO_68, HO_127002, BK121, BK126, HB⟩ := hrel
                 cases gk with
                 | zero => exact absurd HA.out (by simp [land_Settle.l3])
                 | succ k5 =>
                  have H := HA.out; clear HA; simp only [land_Settle.l3] at H
                  by_cases c38 : x70_5 < (t130.length : Int)
                  ·rw [if_pos c38] at H; have c38b0 : decide (x70_5 < (t130.length : Int)) = true := decide_eq_true c38; clear c38
                   by_cases c39 : 0 ≤ x70_5
                   ·rw [if_pos c39] at H; have c39b0 : decide (0 ≤ x70_5) = true := decide_eq_true c39; clear c39
                    by_cases c40 : x70_5 < (t130.length : Int)
                    ·rw [if_pos c40] at H; have c40b0 : decide (x70_5 < (t130.length : Int)) = true := decide_eq_true c40; clear c40
                     by_cases c41 : 0 ≤ (rd t130 x70_5)
                     ·rw [if_pos c41] at H; have c41b0 : decide (0 ≤ (rd t130 x70_5)) = true := decide_eq_true c41; clear c41
                      by_cases c42 : (rd t130 x70_5) < (x127002_3.length : Int)
                      ·rw [if_pos c42] at H; have c42b0 : decide ((rd t130 x70_5) < (x127002_3.length : Int)) = true := decide_eq_true c42; clear c42; obtain ⟨ji43, hji43⟩ : ∃ j_ : Int, (mn x14_5 (wrap64 ((rd x127002_3 (rd t130 x70_5)) + 1))) = j_ := ⟨_, rfl⟩; replace H : (land_Settle.l3 k5 a1 (wrap64 (a0 + 1)) x58_4 (rd x127002_3 x58_4) ji43 x127002_3 (x127002_3.length : Int) x58_4 t130 (t130.length : Int) (wrap64 (x70_5 + 1)) a0 a1 x127002_3) = some (r1, r2, r3, r4) := by first | (rw [hji43] at H; exact H) | (simp only [hji43] at H ⊢; exact H)
                       have hji43_ : (if (wrap64 ((rd x127002_3 (rd t130 x70_5)) + 1)) < x14_5 then (wrap64 ((rd x127002_3 (rd t130 x70_5)) + 1)) else x14_5) = ji43 := hji43; have H' := Aside0.mk H; clear H; have p133 : 0 ≤ (x70_5 : Int) := of_decide_eq_true tW_; have q133 : x70_5 < (t130.length : Int) := of_decide_eq_true tW_; obtain ⟨ad133, e133, hx133_0⟩ := Kd.at_int (Kd.R_reads' HO_68.out).2.2 x70_5 p133 q133; cases e133; replace p133 := eq_true p133; replace q133 := eq_true q133; have hnb44 := NB126_121.out; have hnc44 := NB121_126.out; obtain ⟨z45a, z45b, z45c, y45a, y45b, y45c⟩ := cs3_ BK126.out; have p134 : 0 ≤ ((rd t130 x70_5) : Int) := of_decide_eq_true tW_; have q134 : (rd t130 x70_5) < (x127002_3.length : Int) := of_decide_eq_true tW_; obtain ⟨ad134, e134, hx134_0⟩ := Kd.at_int (Kd.R_reads' HO_127002.out).2.2 (rd t130 x70_5) p134 q134; obtain rfl : ad129 = ad134 := (by injection e134); replace p134 := eq_true p134; replace q134 := eq_true q134; go_wp2
                       go_roundg k5
                       case measure => have := HJ3.out; have := HK2.out; have := HK3.out; have := HK4.out; have := HK5.out; omega
                       case rel => exact ⟨(ji43), (wrap64 (x70_5 + 1)), (by first | rfl | (simp; done) | (simp only [← hji43]; rw [shl_one_small _ (by assumption) (by omega)]; done) | (simp only [← hji43] <;> (first | rfl | simp)) | (simp [*]; done) | (refine congrArg (Value.int .i64) ?_; unfold wrap64; omega) | (simp only [shl_one_small _ (by assumption) (by omega)]; done) | (simp [*]; rw [shl_one_small _ (by assumption) (by omega)]; done)), tS_, H', ⟨by have := HJ3.out; have := HK2.out; have := HK3.out; have := HK4.out; have := HK5.out; omega⟩, ⟨dR_ HO_56⟩, ⟨dR_ HO_68⟩, ⟨dR_ HO_127002⟩, ⟨dB_ BK121⟩, ⟨dB_ BK126⟩, ⟨dL2_ HB GE121 GE126⟩⟩
                      ·rw [if_neg c42] at H; exact absurd H (by simp)
                     ·rw [if_neg c41] at H; exact absurd H (by simp)
                    ·rw [if_neg c40] at H; exact absurd H (by simp)
                   ·rw [if_neg c39] at H; exact absurd H (by simp)
                  ·rw [if_neg c38] at H; have c38b0 : decide (x70_5 < (t130.length : Int)) = false := decide_eq_false c38; clear c38
                   by_cases c46 : x14_5 < (rd x127002_3 x58_4)
                   ·rw [if_pos c46] at H; have c46b0 : decide (x14_5 < (rd x127002_3 x58_4)) = true := decide_eq_true c46; clear c46
                    by_cases c47 : 0 ≤ x58_4
                    ·rw [if_pos c47] at H; have c47b0 : decide (0 ≤ x58_4) = true := decide_eq_true c47; clear c47
                     by_cases c48 : x58_4 < (x127002_3.length : Int)
                     ·rw [if_pos c48] at H; have c48b0 : decide (x58_4 < (x127002_3.length : Int)) = true := decide_eq_true c48; clear c48; obtain ⟨y135, hy135⟩ : ∃ y_ : List Int, y_ = (x127002_3.set (x58_4 : Int).toNat x14_5) := ⟨_, rfl⟩; replace H : (land_Settle.l1 k5 a1 (wrap64 (a0 + 1)) a0 a1 y135) = some (r1, r2, r3, r4) := by first | (rw [hy135]; with_reducible exact H) | (have H2_ := (Option.bind_some _ _).symm.trans H; rw [hy135]; with_reducible exact H2_) | (have H2_ := (Option.bind_some _ _).symm.trans H; with_reducible exact H2_) | with_reducible exact H | (rw [hy135]; exact H) | exact H
                      have Ny135 := Aside0.mk hy135; clear hy135; have H' := Aside0.mk H; clear H; have hnb50 := NB126_121.out; have hnc50 := NB121_126.out; obtain ⟨z51a, z51b, z51c, y51a, y51b, y51c⟩ := cs3_ BK126.out; have p49 : 0 ≤ (x58_4 : Int) := of_decide_eq_true tW_; have q49 : (x58_4 : Int) < ((x127002_3.length : Int) : Int) := of_decide_eq_true tW_; obtain ⟨go49, co49, eo49, gb49, gl49, cl49, HG49⟩ := Kd.R_form HO_127002.out (by omega)
                      (first | cases eo49 | (injection eo49 with ea_ en_ ec_; (first | subst ea_ | (injection ea_ with ea_; subst ea_)); subst ec_; clear en_))
                      have GB49 := Aside0.mk gb49; have GG49 := Aside0.mk HG49; clear gb49 gl49 HG49
                      (first | simp only [add_plain] at hx129_0 | skip)
                      (first | simp only [add_plain] at hx134_0 | skip)
                      obtain ⟨hx49_0, hf49_0⟩ := Kd.R_celln 0 HO_127002.out (x58_4 : Int) p49 q49; replace p49 := eq_true p49; replace q49 := eq_true q49; have HP52 := Kd.R_putg HO_127002.out (x58_4 : Int) x14_5
                      go_wp2_with (first | ((with_reducible refine gate_store (t := 3) (p := 90) rfl ?_); refine store_event (t := 3) (p := 90) (v := ?vo_w53) (w1 := (wr.setCell ⟨go49, (x58_4 : Int).toNat, none⟩ (.int .i64 x14_5))) ?hg ?ho ?hn ?hr ?_; (case ho => rfl); (case hg => rfl); (case hn => rfl); (case hr => first | (go_simp; done) | (go_simp; rfl)); intro w53 hw; have hg : wr.grownBy w53 (some go49) := (by rw [hw]; exact HP52.2); have hp_ : Kd.R (Kd.int .i64) 3 w53 w.heap.size (fun k_ => some k_ ≠ (.slice Ao37 t130.length co37 : Value).ownBlock) (.slice (some ⟨go49, 0, none⟩) x127002_3.length co31) y135 := (by rw [hw, Ny135.out]; exact HP52.1); clear HP52; replace HO_68 := Aside0.mk (Kd.R_after (v := (.slice (some ⟨go49, 0, none⟩) x127002_3.length co31)) (v1 := (.slice (some ⟨go49, 0, none⟩) x127002_3.length co31)) (ok := (fun k_ => some k_ ≠ (.slice (some ⟨go49, 0, none⟩) x127002_3.length co31 : Value).ownBlock)) (dR_ HO_68) hg (.inl rfl)); replace BK121 := Aside0.mk (blk_grown (g := gb121) (o := .cells #[.int .i64 x122000_3, .int .i64 x122001_3, .slice none 0 0] 26 (0, 0)) (dB_ BK121) hg (Kd.R_ne HO_127002.out BK121.out (by decide))); replace BK126 := Aside0.mk (blk_grown (g := gb126) (o := .cells #[.int .i64 a0, .int .i64 a1, .slice (some ⟨go49, 0, none⟩) x127002_3.length co31] 26 (0, 0)) (dB_ BK126) hg (Kd.R_ne HO_127002.out BK126.out (by decide))); replace HO_127002 := Aside0.mk (hp_); replace HB := Aside0.mk ((by rw [hw]; exact below_set (HB.out) GB49.out : Below w.heap.size w w53)); clear hg hw hp_))
                      go_roundg k5
                      case measure => have := HJ3.out; have := HK2.out; have := HK3.out; have := HK4.out; have := HK5.out; omega
                      case rel => exact ⟨(x122000_3), (x122001_3), (y135), (.slice (some ⟨go49, 0, none⟩) x127002_3.length co31), H', ⟨by have := HJ3.out; have := HK2.out; have := HK3.out; have := HK4.out; have := HK5.out; omega⟩, ⟨by (with_reducible repeat (first | apply Kd.R_alloc | apply Kd.R_drewN | apply Kd.R_drew)); exact Kd.R_mono HO_127002.out (fun _ hk => trivial)⟩, ⟨dB_ BK121⟩, ⟨dB_ BK126⟩, ⟨dL2_ HB GE121 GE126⟩⟩
                     ·rw [if_neg c48] at H; exact absurd H (by simp)
                    ·rw [if_neg c47] at H; exact absurd H (by simp)
                   ·rw [if_neg c46] at H; have c46b0 : decide (x14_5 < (rd x127002_3 x58_4)) = false := decide_eq_false c46; clear c46; have H' := Aside0.mk H; clear H; go_wp2
                    go_roundg k5
                    case measure => have := HJ3.out; have := HK2.out; have := HK3.out; have := HK4.out; have := HK5.out; omega
                    case rel => exact ⟨(wrap64 (x58_4 + 1)), tS_, H', ⟨by have := HJ3.out; have := HK2.out; have := HK3.out; have := HK4.out; have := HK5.out; omega⟩, ⟨by (with_reducible repeat (first | apply Kd.R_alloc | apply Kd.R_drewN | apply Kd.R_drew)); exact Kd.R_mono HO_56.out (fun _ hk => trivial)⟩, ⟨by (with_reducible repeat (first | apply Kd.R_alloc | apply Kd.R_drewN | apply Kd.R_drew)); exact Kd.R_mono HO_127002.out (fun _ hk => trivial)⟩, ⟨dB_ BK121⟩, ⟨dB_ BK126⟩, ⟨dL2_ HB GE121 GE126⟩⟩
               ·rw [if_neg c34] at H; exact absurd H (by simp)
              ·rw [if_neg c33] at H; exact absurd H (by simp)
             ·rw [if_neg c32] at H; have c32b0 : decide (x58_4 < (x127002_3.length : Int)) = false := decide_eq_false c32; clear c32; simp only [Option.some.injEq, Prod.mk.injEq] at H; obtain ⟨rfl, rfl, rfl, rfl⟩ := H; have hnb54 := NB126_121.out; have hnc54 := NB121_126.out; obtain ⟨z55a, z55b, z55c, y55a, y55b, y55c⟩ := cs3_ BK126.out; obtain ⟨z56a, z56b, z56c, y56a, y56b, y56c⟩ := cs3_ BK121.out; go_wp2; (try simp only [Exit.noGoto_ret]); refine bodyPost_ret (results_ct rfl _ _ gb121 26 #[.int .i64 a0, .int .i64 a1, .slice Ao31 x127002_3.length co31] (0, 0) _ rfl (bz_ BK121) Tryz.underlying26 rfl (by kernel_rfl)) rfl ?_; exact ⟨_, tE_, by (with_reducible repeat (first | apply Kd.R_alloc | apply Kd.R_drewN | apply Kd.R_drew)); exact Kd.R_mono (fz1_ HO_127002 BK121) (fun _ hk => trivial), dL2_ HB GE121 GE126⟩
     ·rw [if_neg c11] at H; exact absurd H (by simp)
    ·rw [if_neg c10] at H; exact absurd H (by simp)

end Go.Proofs.YtldbkigenaakkaaGreatDoor.Q
