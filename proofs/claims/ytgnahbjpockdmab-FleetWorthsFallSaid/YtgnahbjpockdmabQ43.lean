-- PRINTED by print.py out of the translation. Not trusted: Lean checks it.
import Derived.Test.YtgnahbjpockdmabPrs
import Derived.Test.YtgnahbjpockdmabQ0
import Derived.Test.YtgnahbjpockdmabQ22
namespace Go.Proofs.Ytgnahbjpockdmab.Q
open Go.RowKit Go.Proofs.YtgnahbjpockdmabPrs Go.Proofs.YtgnahbjpockdmabOwn Go.Proofs.YtgnahbjpockdmabW.PrintWords Go.Proofs.YtgnahbjpockdmabW.PrintLast Go.Proofs.YtgnahbjpockdmabW.PrintMore
open List renaming setIfInBounds_toArray → sI_, set_cons_zero → s0_, set_cons_succ → sS_
attribute [local go_sem] max2_int min2_int max_two min_two max_three min_three max_four min_four   -- for this text's walks alone
set_option linter.unusedVariables false
set_option linter.unusedSimpArgs false

/-! ### roll_Below: function 42 -/
def roll_Below.l0 : Nat → Int → Int → Int → Option (Int × Int)
  | 0, _, _, _ => none
  | k + 1, x6, x7, x435000 => (roll_Next.f x435000).bind fun bt436 => (if bt436.1 ≤ (Go.bits .xor .u64 IntKind.u64.max x7) then (if x6 = 0 then (none) else (some (wrap64 (Int.tmod bt436.1 x6), bt436.2))) else (roll_Below.l0 k x6 x7 bt436.2))
def roll_Below.f (k : Nat) (a0_0 : Int) (a1 : Int) : Option (Int × Int) := if a1 < 1 then (some (0, a0_0)) else (if (IntKind.u64.wrap (a1)) = 0 then (none) else (roll_Below.l0 k (IntKind.u64.wrap (a1)) (Int.tmod (IntKind.u64.wrap (-(IntKind.u64.wrap (a1)))) (IntKind.u64.wrap (a1))) a0_0))
theorem roll_Below.mono_l : ∀ k, (∀ y0 y1 y2, LeO (roll_Below.l0 k y0 y1 y2) (roll_Below.l0 (k + 1) y0 y1 y2))
  | 0 => fun _ _ _ r h => by simp [roll_Below.l0] at h
  | k + 1 => by
    have ih0 := roll_Below.mono_l k
    · intro y0 y1 y2
      unfold roll_Below.l0
      repeat' first
      | (with_reducible first | exact ih0 _ _ _ | exact LeO.refl _ | exact LeO.none _ | refine LeO.ite ?_ ?_ | refine LeO.bind ?_ (fun _ => ?_))
      | exact ih0 _ _ _
      | exact LeO.none _
      | refine LeO.ite ?_ ?_
      | refine LeO.bind ?_ (fun _ => ?_)
theorem roll_Below.mono : ∀ a0 a1 k, LeO (roll_Below.f k a0 a1) (roll_Below.f (k + 1) a0 a1) := by
  intro a0 a1 k
  have ih0 := roll_Below.mono_l k
  unfold roll_Below.f
  repeat' first
      | (with_reducible first | exact ih0 _ _ _ | exact LeO.refl _ | exact LeO.none _ | refine LeO.ite ?_ ?_ | refine LeO.bind ?_ (fun _ => ?_))
      | exact ih0 _ _ _
      | exact LeO.none _
      | refine LeO.ite ?_ ?_
      | refine LeO.bind ?_ (fun _ => ?_)
set_option maxHeartbeats 8000000 in
set_option maxRecDepth 100000 in
theorem roll_Below.calls (k : Nat) (a0_0 : Int) (a1 : Int) (r1 : Int) (r2 : Int) (w : World) (h : roll_Below.f k a0_0 a1 = some (r1, r2)) :
    Calls Try.prog 42 #[.agg #[.int .u64 a0_0], .int .i64 a1] w fun e w' => e = .returned (.tuple #[.int .i64 r1, .agg #[.int .u64 r2]]) ∧ Below w.heap.size w w' := by
 have hu37 := Try.underlying37
 have HB := Aside0.mk (Below.refl w.heap.size w)
 have H : (if a1 < 1 then (some (0, a0_0)) else (if (IntKind.u64.wrap (a1)) = 0 then (none) else (roll_Below.l0 k (IntKind.u64.wrap (a1)) (Int.tmod (IntKind.u64.wrap (-(IntKind.u64.wrap (a1)))) (IntKind.u64.wrap (a1))) a0_0))) = some (r1, r2) := h
 clear h
 by_cases c3 : a1 < 1
 ·rw [if_pos c3] at H
  have c3b0 : decide (a1 < 1) = true := decide_eq_true c3
  clear c3
  simp only [Option.some.injEq, Prod.mk.injEq] at H
  obtain ⟨rfl, rfl⟩ := H
  go_enter Try.func42, Try.ntmps42
  try go_wp2_with (first | ((with_reducible refine gate_dst (N := 2) rfl ?_); refine box_event ?hg (N := 2) ?hd (cs := #[.int .u64 a0_0]) (t := 37) ?hr ?_; (case hd => rfl); (case hg => rfl); (case hr => first | (go_simp; done) | (go_simp; rfl)); intro gb434 hg w4 hbox hb; have BK434 := Aside0.mk (hbox); have GW434 := Aside0.mk ((dS_ hg (dL_ HB) : w.heap.size ≤ gb434)); have GE434 := Aside0.mk ((dS_ hg (dL_ HB) : w.heap.size ≤ gb434)); replace HB := Aside0.mk (below_step (dL_ HB) hb); clear hb hbox hg) | ((with_reducible refine gate_dst (N := 5) rfl ?_); refine box_event ?hg (N := 5) ?hd (cs := #[.int .u64 0]) (t := 37) ?hr ?_; (case hd => rfl); (case hg => rfl); (case hr => first | (go_simp; done) | (go_simp; rfl)); intro gb435 hg w5 hbox hb; have BK435 := Aside0.mk (hbox); have GW435 := Aside0.mk ((dS_ hg (dL1_ HB GE434) : w.heap.size ≤ gb435)); have GE435 := Aside0.mk ((dS_ hg (dL1_ HB GE434) : w.heap.size ≤ gb435)); replace HB := Aside0.mk (below_step (dL1_ HB GE434) hb); have NB434_435 := Aside0.mk ((by rw [hg]; exact Nat.ne_of_lt (blk_lt (dB_ BK434)) : gb434 ≠ gb435)); have NB435_434 := Aside0.mk ((by rw [hg]; exact Nat.ne_of_gt (blk_lt (dB_ BK434)) : gb435 ≠ gb434)); replace BK434 := Aside0.mk (blk_below (g := gb434) (o := .cells #[.int .u64 a0_0] 37 (0, 0)) (dB_ BK434) hb); clear hb hbox hg))
  replace BK434 := Aside0.mk (blk_drew BK434.out)
  replace BK435 := Aside0.mk (blk_drew BK435.out)
  replace HB := Aside0.mk (below_drew1 HB.out)
  refine start_ (n := 3) (S := fun w' => w'.cell? ⟨gb434, 0, none⟩ = some (.int .u64 a0_0)) (ds := []) #[false, false, false] (by kernel_rfl) rfl rfl ((blk_cell BK434.out 0).trans rfl) (fun hHeld => ?_)
  generalize w5.drew = w6 at BK434 BK435 HB hHeld ⊢
  refine pure_ (i := 1) (N := some 4) (v := ?_) (a' := ?_) #[false, true, false] rfl rfl (by kernel_rfl) (fun _ _ _ h => h) (Or.inl ⟨by rfl, ?_⟩) ?_ ?_
  rotate_left
  ·intro w'
   go_simp
   with_reducible rfl
  rotate_left
  ·simp only [Act.put, sI_, s0_, sS_, i64_w, i32_w]
   rfl
  refine take_ (i := 0) (N := some 12) (v := ?_) (a' := ?_) #[true, true, false] rfl rfl (by kernel_rfl) (fun _ _ _ h => h) (Or.inl ⟨by rfl, ?_⟩) hHeld ?_ ?_
  rotate_left
  ·intro w' s0
   go_simp
   with_reducible rfl
  rotate_left
  ·simp only [Act.put, sI_, s0_, sS_, i64_w, i32_w]
   rfl
  refine one_ (i := 2) (N := none) #[true, true, true] rfl rfl (by kernel_rfl) (by decide) (fun K hK => ?_)
  have hs7 : w6.cell? ⟨gb435, 0, none⟩ = some (.int .u64 0) := (blk_cell BK435.out 0).trans rfl
  have hfs7 := blk_frozen BK435.out 0
  have hns7_0 := NB434_435.out
  have hms7_0 := NB435_434.out
  refine skip_ (w1 := ?_) (by rfl) rfl ?_ ?_
  rotate_left
  ·go_simp
   rfl
  refine hK.out _ _ (((cell_far (p := ⟨gb435, _, none⟩) NB434_435.out _).trans (hHeld))) (fun hHeld => ?_)
  clear hK K
  refine done_ (by kernel_rfl) ?_
  try go_wp2
  refine bodyPost_ret (results_tc rfl _ _ gb435 37 #[.int .u64 a0_0] (0, 0) _ rfl (by (with_reducible repeat (first | refine blk_drewN ?_ _ | refine blk_drew ?_ | refine blk_alloc ?_ _)); refine blk_put (cs := #[.int .u64 0]) ?_ 0 _ rfl; (with_reducible repeat (first | refine blk_drewN ?_ _ | refine blk_drew ?_ | refine blk_alloc ?_ _)); exact BK435.out) Try.underlying37 rfl (by kernel_rfl)) rfl ?_
  exact ⟨tE_, dL2_ HB GE434 GE435⟩
 ·rw [if_neg c3] at H
  have c3b0 : decide (a1 < 1) = false := decide_eq_false c3
  clear c3
  by_cases c8 : (IntKind.u64.wrap (a1)) = 0
  ·rw [if_pos c8] at H
   exact absurd H (by simp)
  ·rw [if_neg c8] at H
   have c8b0 : ((IntKind.u64.wrap (a1)) == 0) = false := beq_eq_false_iff_ne.mpr c8
   have c8b1 : ((IntKind.u64.wrap (a1)) != 0) = true := bne_iff_ne.mpr c8
   have H' := Aside0.mk H
   clear H
   go_enter Try.func42, Try.ntmps42
   go_wp2_with (first | ((with_reducible refine gate_dst (N := 2) rfl ?_); refine box_event ?hg (N := 2) ?hd (cs := #[.int .u64 a0_0]) (t := 37) ?hr ?_; (case hd => rfl); (case hg => rfl); (case hr => first | (go_simp; done) | (go_simp; rfl)); intro gb434 hg w9 hbox hb; have BK434 := Aside0.mk (hbox); have GW434 := Aside0.mk ((dS_ hg (dL_ HB) : w.heap.size ≤ gb434)); have GE434 := Aside0.mk ((dS_ hg (dL_ HB) : w.heap.size ≤ gb434)); replace HB := Aside0.mk (below_step (dL_ HB) hb); clear hb hbox hg) | ((with_reducible refine gate_dst (N := 5) rfl ?_); refine box_event ?hg (N := 5) ?hd (cs := #[.int .u64 0]) (t := 37) ?hr ?_; (case hd => rfl); (case hg => rfl); (case hr => first | (go_simp; done) | (go_simp; rfl)); intro gb435 hg w10 hbox hb; have BK435 := Aside0.mk (hbox); have GW435 := Aside0.mk ((dS_ hg (dL1_ HB GE434) : w.heap.size ≤ gb435)); have GE435 := Aside0.mk ((dS_ hg (dL1_ HB GE434) : w.heap.size ≤ gb435)); replace HB := Aside0.mk (below_step (dL1_ HB GE434) hb); have NB434_435 := Aside0.mk ((by rw [hg]; exact Nat.ne_of_lt (blk_lt (dB_ BK434)) : gb434 ≠ gb435)); have NB435_434 := Aside0.mk ((by rw [hg]; exact Nat.ne_of_gt (blk_lt (dB_ BK434)) : gb435 ≠ gb434)); replace BK434 := Aside0.mk (blk_below (g := gb434) (o := .cells #[.int .u64 a0_0] 37 (0, 0)) (dB_ BK434) hb); clear hb hbox hg))
   go_loopg [] k (fun kq w' => ∃ (x435000_1 : Int) (x436000_1 : Int), Aside0 (roll_Below.l0 kq (IntKind.u64.wrap (a1)) (Int.tmod (IntKind.u64.wrap (-(IntKind.u64.wrap (a1)))) (IntKind.u64.wrap (a1))) x435000_1 = some (r1, r2)) ∧ Aside0 (kq ≤ k) ∧ Aside0 (w'.heap[gb434]? = some (.cells #[.int .u64 x435000_1] 37 (0, 0))) ∧ Aside0 (w'.heap[gb435]? = some (.cells #[.int .u64 x436000_1] 37 (0, 0))) ∧ Aside0 (Below w.heap.size w w'))
   case atStart => exact ⟨(a0_0), (0), H', ⟨Nat.le_refl _⟩, ⟨dB_ BK434⟩, ⟨dB_ BK435⟩, ⟨dL2_ HB GE434 GE435⟩⟩
   case round =>
    clear H'
    try clear c3
    try clear c3b0
    try clear c8
    try clear c8b0
    try clear c8b1
    obtain ⟨x435000_1, x436000_1, HA, HK1, BK434, BK435, HB⟩ := hrel
    cases gk with
    | zero => exact absurd HA.out (by simp [roll_Below.l0])
    | succ k1 =>
     have H := HA.out
     clear HA
     simp only [roll_Below.l0] at H
     replace H := Option.bind_eq_some_iff.mp H
     obtain ⟨⟨t436, t437⟩, A110, H⟩ := H
     replace H : (if t436 ≤ (Go.bits .xor .u64 IntKind.u64.max (Int.tmod (IntKind.u64.wrap (-(IntKind.u64.wrap (a1)))) (IntKind.u64.wrap (a1)))) then (if (IntKind.u64.wrap (a1)) = 0 then (none) else (some (wrap64 (Int.tmod t436 (IntKind.u64.wrap (a1))), t437))) else (roll_Below.l0 k1 (IntKind.u64.wrap (a1)) (Int.tmod (IntKind.u64.wrap (-(IntKind.u64.wrap (a1)))) (IntKind.u64.wrap (a1))) t437)) = some (r1, r2) := H
     have A11 := Aside0.mk A110
     clear A110
     by_cases c12 : t436 ≤ (Go.bits .xor .u64 IntKind.u64.max (Int.tmod (IntKind.u64.wrap (-(IntKind.u64.wrap (a1)))) (IntKind.u64.wrap (a1))))
     ·rw [if_pos c12] at H
      have c12b0 : decide (t436 ≤ (Go.bits .xor .u64 IntKind.u64.max (Int.tmod (IntKind.u64.wrap (-(IntKind.u64.wrap (a1)))) (IntKind.u64.wrap (a1))))) = true := decide_eq_true c12
      clear c12
      by_cases c13 : (IntKind.u64.wrap (a1)) = 0
      ·rw [if_pos c13] at H
       exact absurd H (by simp)
      ·rw [if_neg c13] at H
       have c13b0 : ((IntKind.u64.wrap (a1)) == 0) = false := beq_eq_false_iff_ne.mpr c13
       have c13b1 : ((IntKind.u64.wrap (a1)) != 0) = true := bne_iff_ne.mpr c13
       simp only [Option.some.injEq, Prod.mk.injEq] at H
       obtain ⟨rfl, rfl⟩ := H
       have hnb14 := NB434_435.out
       have hnc14 := NB435_434.out
       have hcz15_0 : wr.cell? ⟨gb434, 0, none⟩ = some (.int .u64 x435000_1) := (blk_cell BK434.out 0).trans rfl
       have hfz15_0 := blk_frozen BK434.out 0
       try go_wp2_with (first | ((with_reducible refine gate_callee (f := 51) rfl ?_); refine goesL_ (some 21) rfl rfl Try.func51 (by kernel_rfl) rfl #[.agg #[.int .u64 x435000_1]] rfl tA_ ?_; (with_reducible refine (roll_Next.calls x435000_1 t436 t437 _ A11.out).mono ?_); rintro e w16 ⟨rfl, hb⟩; refine ⟨_, rfl, ?_⟩; replace BK434 := Aside0.mk (blk_below (g := gb434) (o := .cells #[.int .u64 x435000_1] 37 (0, 0)) (dB_ BK434) hb); replace BK435 := Aside0.mk (blk_below (g := gb435) (o := .cells #[.int .u64 x436000_1] 37 (0, 0)) (dB_ BK435) hb); replace HB := Aside0.mk (below_step (dL2_ HB GE434 GE435) hb)) | ((with_reducible refine gate_dst (N := 9) rfl ?_); refine box_event ?hg (N := 9) ?hd (cs := #[.int .u64 0]) (t := 37) ?hr ?_; (case hd => rfl); (case hg => rfl); (case hr => first | (go_simp; done) | (go_simp; rfl)); intro gb438 hg w17 hbox hb; have BK438 := Aside0.mk (hbox); have GW438 := Aside0.mk ((dS_ hg (dL2_ HB GE434 GE435) : w.heap.size ≤ gb438)); have GE438 := Aside0.mk ((dS_ hg (dL2_ HB GE434 GE435) : w.heap.size ≤ gb438)); replace HB := Aside0.mk (below_step (dL2_ HB GE434 GE435) hb); have NB434_438 := Aside0.mk ((by rw [hg]; exact Nat.ne_of_lt (blk_lt (dB_ BK434)) : gb434 ≠ gb438)); have NB438_434 := Aside0.mk ((by rw [hg]; exact Nat.ne_of_gt (blk_lt (dB_ BK434)) : gb438 ≠ gb434)); replace BK434 := Aside0.mk (blk_below (g := gb434) (o := .cells #[.int .u64 x435000_1] 37 (0, 0)) (dB_ BK434) hb); have NB435_438 := Aside0.mk ((by rw [hg]; exact Nat.ne_of_lt (blk_lt (dB_ BK435)) : gb435 ≠ gb438)); have NB438_435 := Aside0.mk ((by rw [hg]; exact Nat.ne_of_gt (blk_lt (dB_ BK435)) : gb438 ≠ gb435)); replace BK435 := Aside0.mk (blk_below (g := gb435) (o := .cells #[.int .u64 x436000_1] 37 (0, 0)) (dB_ BK435) hb); clear hb hbox hg; have hnb18 := NB438_434.out; have hnc18 := NB434_438.out; have hnb19 := NB438_435.out; have hnc19 := NB435_438.out; have hcz20_0 : w17.cell? ⟨gb438, 0, none⟩ = some (.int .u64 0) := (blk_cell BK438.out 0).trans rfl; have hfz20_0 := blk_frozen BK438.out 0; have hcz21_0 : w17.cell? ⟨gb434, 0, none⟩ = some (.int .u64 x435000_1) := (blk_cell BK434.out 0).trans rfl; have hfz21_0 := blk_frozen BK434.out 0))
       have n0_ : Aside0 (((w17.setCell ⟨gb438, 0, none⟩ (.int .u64 t437)).setCell ⟨gb434, 0, none⟩ (.int .u64 t437)).heap[gb434]? = some (.cells #[.int .u64 t437] 37 (0, 0))) := ⟨by (with_reducible repeat (first | refine blk_drewN ?_ _ | refine blk_drew ?_ | refine blk_alloc ?_ _)); refine blk_put (cs := #[.int .u64 x435000_1]) ?_ 0 _ rfl; (with_reducible repeat (first | refine blk_drewN ?_ _ | refine blk_drew ?_ | refine blk_alloc ?_ _)); refine blk_far ?_ NB434_438.out _; (with_reducible repeat (first | refine blk_drewN ?_ _ | refine blk_drew ?_ | refine blk_alloc ?_ _)); exact BK434.out⟩
       have n1_ : Aside0 (((w17.setCell ⟨gb438, 0, none⟩ (.int .u64 t437)).setCell ⟨gb434, 0, none⟩ (.int .u64 t437)).heap[gb435]? = some (.cells #[.int .u64 x436000_1] 37 (0, 0))) := ⟨by (with_reducible repeat (first | refine blk_drewN ?_ _ | refine blk_drew ?_ | refine blk_alloc ?_ _)); refine blk_far ?_ NB435_434.out _; (with_reducible repeat (first | refine blk_drewN ?_ _ | refine blk_drew ?_ | refine blk_alloc ?_ _)); refine blk_far ?_ NB435_438.out _; (with_reducible repeat (first | refine blk_drewN ?_ _ | refine blk_drew ?_ | refine blk_alloc ?_ _)); exact BK435.out⟩
       have n2_ : Aside0 (((w17.setCell ⟨gb438, 0, none⟩ (.int .u64 t437)).setCell ⟨gb434, 0, none⟩ (.int .u64 t437)).heap[gb438]? = some (.cells #[.int .u64 t437] 37 (0, 0))) := ⟨by (with_reducible repeat (first | refine blk_drewN ?_ _ | refine blk_drew ?_ | refine blk_alloc ?_ _)); refine blk_far ?_ NB438_434.out _; (with_reducible repeat (first | refine blk_drewN ?_ _ | refine blk_drew ?_ | refine blk_alloc ?_ _)); refine blk_put (cs := #[.int .u64 0]) ?_ 0 _ rfl; (with_reducible repeat (first | refine blk_drewN ?_ _ | refine blk_drew ?_ | refine blk_alloc ?_ _)); exact BK438.out⟩
       have n3_ : Aside0 (Below w.heap.size w ((w17.setCell ⟨gb438, 0, none⟩ (.int .u64 t437)).setCell ⟨gb434, 0, none⟩ (.int .u64 t437))) := ⟨dL3_ HB GE434 GE435 GE438⟩
       (try clear BK434)
       (try clear BK435)
       (try clear BK438)
       (try clear HB)
       generalize ((w17.setCell ⟨gb438, 0, none⟩ (.int .u64 t437)).setCell ⟨gb434, 0, none⟩ (.int .u64 t437)) = w22 at n0_ n1_ n2_ n3_ ⊢
       have BK434 := n0_
       have BK435 := n1_
       have BK438 := n2_
       have HB := n3_
       clear n0_ n1_ n2_ n3_
       replace BK434 := Aside0.mk (blk_drew BK434.out)
       replace BK435 := Aside0.mk (blk_drew BK435.out)
       replace BK438 := Aside0.mk (blk_drew BK438.out)
       replace HB := Aside0.mk (below_drew1 HB.out)
       refine start_ (n := 7) (S := fun w' => w'.cell? ⟨gb434, 0, none⟩ = some (.int .u64 t437)) (ds := []) #[false, false, false, false, false, false, false] (by kernel_rfl) rfl rfl ((blk_cell BK434.out 0).trans rfl) (fun hHeld => ?_)
       generalize w22.drew = w23 at BK434 BK435 BK438 HB hHeld ⊢
       refine pure_ (i := 0) (N := some 29) (v := ?_) (a' := ?_) #[true, false, false, false, false, false, false] rfl rfl (by kernel_rfl) (fun _ _ _ h => h) (Or.inl ⟨by rfl, ?_⟩) ?_ ?_
       rotate_left
       ·intro w'
        go_simp
        with_reducible rfl
       rotate_left
       ·simp only [Act.put, sI_, s0_, sS_, i64_w, i32_w]
        rfl
       refine pure_ (i := 1) (N := some 30) (v := ?_) (a' := ?_) #[true, true, false, false, false, false, false] rfl rfl (by kernel_rfl) (fun _ _ _ h => h) (Or.inl ⟨by rfl, ?_⟩) ?_ ?_
       rotate_left
       ·intro w'
        go_simp
        with_reducible rfl
       rotate_left
       ·simp only [Act.put, sI_, s0_, sS_, i64_w, i32_w]
        rfl
       refine pure_ (i := 2) (N := some 31) (v := ?_) (a' := ?_) #[true, true, true, false, false, false, false] rfl rfl (by kernel_rfl) (fun _ _ _ h => h) (Or.inl ⟨by rfl, ?_⟩) ?_ ?_
       rotate_left
       ·intro w'
        go_simp
        with_reducible rfl
       rotate_left
       ·simp only [Act.put, sI_, s0_, sS_, i64_w, i32_w]
        rfl
       refine pure_ (i := 3) (N := some 32) (v := ?_) (a' := ?_) #[true, true, true, true, false, false, false] rfl rfl (by kernel_rfl) (fun _ _ _ h => h) (Or.inl ⟨by rfl, ?_⟩) ?_ ?_
       rotate_left
       ·intro w'
        go_simp
        with_reducible rfl
       rotate_left
       ·simp only [Act.put, sI_, s0_, sS_, i64_w, i32_w]
        rfl
       refine pure_ (i := 5) (N := some 4) (v := ?_) (a' := ?_) #[true, true, true, true, false, true, false] rfl rfl (by kernel_rfl) (fun _ _ _ h => h) (Or.inl ⟨by rfl, ?_⟩) ?_ ?_
       rotate_left
       ·intro w'
        go_simp
        with_reducible rfl
       rotate_left
       ·simp only [Act.put, sI_, s0_, sS_, i64_w, i32_w]
        rfl
       refine take_ (i := 4) (N := some 33) (v := ?_) (a' := ?_) #[true, true, true, true, true, true, false] rfl rfl (by kernel_rfl) (fun _ _ _ h => h) (Or.inl ⟨by rfl, ?_⟩) hHeld ?_ ?_
       rotate_left
       ·intro w' s0
        go_simp
        with_reducible rfl
       rotate_left
       ·simp only [Act.put, sI_, s0_, sS_, i64_w, i32_w]
        rfl
       refine one_ (i := 6) (N := none) #[true, true, true, true, true, true, true] rfl rfl (by kernel_rfl) (by decide) (fun K hK => ?_)
       have hs24 : w23.cell? ⟨gb435, 0, none⟩ = some (.int .u64 x436000_1) := (blk_cell BK435.out 0).trans rfl
       have hfs24 := blk_frozen BK435.out 0
       have hns24_0 := NB434_435.out
       have hns24_2 := NB438_435.out
       have hms24_0 := NB435_434.out
       have hms24_2 := NB435_438.out
       refine skip_ (w1 := ?_) (by rfl) rfl ?_ ?_
       rotate_left
       ·go_simp
        rfl
       refine hK.out _ _ (((cell_far (p := ⟨gb435, _, none⟩) NB434_435.out _).trans (hHeld))) (fun hHeld => ?_)
       clear hK K
       refine done_ (by kernel_rfl) ?_
       try go_wp2
       refine bodyPost_ret (results_tc rfl _ _ gb435 37 #[.int .u64 t437] (0, 0) _ rfl (by (with_reducible repeat (first | refine blk_drewN ?_ _ | refine blk_drew ?_ | refine blk_alloc ?_ _)); refine blk_put (cs := #[.int .u64 x436000_1]) ?_ 0 _ rfl; (with_reducible repeat (first | refine blk_drewN ?_ _ | refine blk_drew ?_ | refine blk_alloc ?_ _)); exact BK435.out) Try.underlying37 rfl (by kernel_rfl)) rfl ?_
       exact ⟨tE_, dL3_ HB GE434 GE435 GE438⟩
     ·rw [if_neg c12] at H
      have c12b0 : decide (t436 ≤ (Go.bits .xor .u64 IntKind.u64.max (Int.tmod (IntKind.u64.wrap (-(IntKind.u64.wrap (a1)))) (IntKind.u64.wrap (a1))))) = false := decide_eq_false c12
      clear c12
      have H' := Aside0.mk H
      clear H
      have hnb25 := NB434_435.out
      have hnc25 := NB435_434.out
      have hcz26_0 : wr.cell? ⟨gb434, 0, none⟩ = some (.int .u64 x435000_1) := (blk_cell BK434.out 0).trans rfl
      have hfz26_0 := blk_frozen BK434.out 0
      go_wp2_with (first | ((with_reducible refine gate_callee (f := 51) rfl ?_); refine goesL_ (some 21) rfl rfl Try.func51 (by kernel_rfl) rfl #[.agg #[.int .u64 x435000_1]] rfl tA_ ?_; (with_reducible refine (roll_Next.calls x435000_1 t436 t437 _ A11.out).mono ?_); rintro e w27 ⟨rfl, hb⟩; refine ⟨_, rfl, ?_⟩; replace BK434 := Aside0.mk (blk_below (g := gb434) (o := .cells #[.int .u64 x435000_1] 37 (0, 0)) (dB_ BK434) hb); replace BK435 := Aside0.mk (blk_below (g := gb435) (o := .cells #[.int .u64 x436000_1] 37 (0, 0)) (dB_ BK435) hb); replace HB := Aside0.mk (below_step (dL2_ HB GE434 GE435) hb)) | ((with_reducible refine gate_dst (N := 9) rfl ?_); refine box_event ?hg (N := 9) ?hd (cs := #[.int .u64 0]) (t := 37) ?hr ?_; (case hd => rfl); (case hg => rfl); (case hr => first | (go_simp; done) | (go_simp; rfl)); intro gb438 hg w28 hbox hb; have BK438 := Aside0.mk (hbox); have GW438 := Aside0.mk ((dS_ hg (dL2_ HB GE434 GE435) : w.heap.size ≤ gb438)); have GE438 := Aside0.mk ((dS_ hg (dL2_ HB GE434 GE435) : w.heap.size ≤ gb438)); replace HB := Aside0.mk (below_step (dL2_ HB GE434 GE435) hb); have NB434_438 := Aside0.mk ((by rw [hg]; exact Nat.ne_of_lt (blk_lt (dB_ BK434)) : gb434 ≠ gb438)); have NB438_434 := Aside0.mk ((by rw [hg]; exact Nat.ne_of_gt (blk_lt (dB_ BK434)) : gb438 ≠ gb434)); replace BK434 := Aside0.mk (blk_below (g := gb434) (o := .cells #[.int .u64 x435000_1] 37 (0, 0)) (dB_ BK434) hb); have NB435_438 := Aside0.mk ((by rw [hg]; exact Nat.ne_of_lt (blk_lt (dB_ BK435)) : gb435 ≠ gb438)); have NB438_435 := Aside0.mk ((by rw [hg]; exact Nat.ne_of_gt (blk_lt (dB_ BK435)) : gb438 ≠ gb435)); replace BK435 := Aside0.mk (blk_below (g := gb435) (o := .cells #[.int .u64 x436000_1] 37 (0, 0)) (dB_ BK435) hb); clear hb hbox hg; have hnb29 := NB438_434.out; have hnc29 := NB434_438.out; have hnb30 := NB438_435.out; have hnc30 := NB435_438.out; have hcz31_0 : w28.cell? ⟨gb438, 0, none⟩ = some (.int .u64 0) := (blk_cell BK438.out 0).trans rfl; have hfz31_0 := blk_frozen BK438.out 0; have hcz32_0 : w28.cell? ⟨gb434, 0, none⟩ = some (.int .u64 x435000_1) := (blk_cell BK434.out 0).trans rfl; have hfz32_0 := blk_frozen BK434.out 0))
      go_roundg k1
      case measure => have := HK1.out; omega
      case rel => exact ⟨(t437), (x436000_1), H', ⟨by have := HK1.out; omega⟩, ⟨by (with_reducible repeat (first | refine blk_drewN ?_ _ | refine blk_drew ?_ | refine blk_alloc ?_ _)); refine blk_put (cs := #[.int .u64 x435000_1]) ?_ 0 _ rfl; (with_reducible repeat (first | refine blk_drewN ?_ _ | refine blk_drew ?_ | refine blk_alloc ?_ _)); refine blk_far ?_ NB434_438.out _; (with_reducible repeat (first | refine blk_drewN ?_ _ | refine blk_drew ?_ | refine blk_alloc ?_ _)); exact BK434.out⟩, ⟨by (with_reducible repeat (first | refine blk_drewN ?_ _ | refine blk_drew ?_ | refine blk_alloc ?_ _)); refine blk_far ?_ NB435_434.out _; (with_reducible repeat (first | refine blk_drewN ?_ _ | refine blk_drew ?_ | refine blk_alloc ?_ _)); refine blk_far ?_ NB435_438.out _; (with_reducible repeat (first | refine blk_drewN ?_ _ | refine blk_drew ?_ | refine blk_alloc ?_ _)); exact BK435.out⟩, ⟨dL3_ HB GE434 GE435 GE438⟩⟩

end Go.Proofs.Ytgnahbjpockdmab.Q
namespace Go.Proofs.Ytgnahbjpockdmab.Q
open Go.RowKit Go.Proofs.YtgnahbjpockdmabPrs Go.Proofs.YtgnahbjpockdmabOwn Go.Proofs.YtgnahbjpockdmabW.PrintWords Go.Proofs.YtgnahbjpockdmabW.PrintLast Go.Proofs.YtgnahbjpockdmabW.PrintMore
open List renaming setIfInBounds_toArray → sI_, set_cons_zero → s0_, set_cons_succ → sS_
attribute [local go_sem] max2_int min2_int max_two min_two max_three min_three max_four min_four   -- for this text's walks alone
set_option linter.unusedVariables false
set_option linter.unusedSimpArgs false

/-! ### roll_Chance: function 31 -/
def roll_Chance.f (k : Nat) (a0_0 : Int) (a1 : Int) (a2 : Int) : Option (Bool × Int) := if a2 < 1 then (some (false, a0_0)) else ((roll_Below.f k a0_0 a2).bind fun bt441 => (some (decide (bt441.1 < a1), bt441.2)))
theorem roll_Chance.mono : ∀ a0 a1 a2 k, LeO (roll_Chance.f k a0 a1 a2) (roll_Chance.f (k + 1) a0 a1 a2) := by
  intro a0 a1 a2 k
  unfold roll_Chance.f
  repeat' first
      | (with_reducible first | exact roll_Below.mono _ _ _ | exact LeO.refl _ | exact LeO.none _ | refine LeO.ite ?_ ?_ | refine LeO.bind ?_ (fun _ => ?_))
      | exact roll_Below.mono _ _ _
      | exact LeO.none _
      | refine LeO.ite ?_ ?_
      | refine LeO.bind ?_ (fun _ => ?_)
set_option maxHeartbeats 8000000 in
set_option maxRecDepth 100000 in
theorem roll_Chance.calls (k : Nat) (a0_0 : Int) (a1 : Int) (a2 : Int) (r1 : Bool) (r2 : Int) (w : World) (h : roll_Chance.f k a0_0 a1 a2 = some (r1, r2)) :
    Calls Try.prog 31 #[.agg #[.int .u64 a0_0], .int .i64 a1, .int .i64 a2] w fun e w' => e = .returned (.tuple #[.bool r1, .agg #[.int .u64 r2]]) ∧ Below w.heap.size w w' := by
 have hu37 := Try.underlying37
 have HB := Aside0.mk (Below.refl w.heap.size w)
 have H : (if a2 < 1 then (some (false, a0_0)) else ((roll_Below.f k a0_0 a2).bind fun bt441 => (some (decide (bt441.1 < a1), bt441.2)))) = some (r1, r2) := h
 clear h
 by_cases c4 : a2 < 1
 ·rw [if_pos c4] at H
  have c4b0 : decide (a2 < 1) = true := decide_eq_true c4
  clear c4
  simp only [Option.some.injEq, Prod.mk.injEq] at H
  obtain ⟨rfl, rfl⟩ := H
  go_enter Try.func31, Try.ntmps31
  try go_wp2_with (first | ((with_reducible refine gate_dst (N := 3) rfl ?_); refine box_event ?hg (N := 3) ?hd (cs := #[.int .u64 a0_0]) (t := 37) ?hr ?_; (case hd => rfl); (case hg => rfl); (case hr => first | (go_simp; done) | (go_simp; rfl)); intro gb439 hg w5 hbox hb; have BK439 := Aside0.mk (hbox); have GW439 := Aside0.mk ((dS_ hg (dL_ HB) : w.heap.size ≤ gb439)); have GE439 := Aside0.mk ((dS_ hg (dL_ HB) : w.heap.size ≤ gb439)); replace HB := Aside0.mk (below_step (dL_ HB) hb); clear hb hbox hg) | ((with_reducible refine gate_dst (N := 7) rfl ?_); refine box_event ?hg (N := 7) ?hd (cs := #[.int .u64 0]) (t := 37) ?hr ?_; (case hd => rfl); (case hg => rfl); (case hr => first | (go_simp; done) | (go_simp; rfl)); intro gb440 hg w6 hbox hb; have BK440 := Aside0.mk (hbox); have GW440 := Aside0.mk ((dS_ hg (dL1_ HB GE439) : w.heap.size ≤ gb440)); have GE440 := Aside0.mk ((dS_ hg (dL1_ HB GE439) : w.heap.size ≤ gb440)); replace HB := Aside0.mk (below_step (dL1_ HB GE439) hb); have NB439_440 := Aside0.mk ((by rw [hg]; exact Nat.ne_of_lt (blk_lt (dB_ BK439)) : gb439 ≠ gb440)); have NB440_439 := Aside0.mk ((by rw [hg]; exact Nat.ne_of_gt (blk_lt (dB_ BK439)) : gb440 ≠ gb439)); replace BK439 := Aside0.mk (blk_below (g := gb439) (o := .cells #[.int .u64 a0_0] 37 (0, 0)) (dB_ BK439) hb); clear hb hbox hg))
  replace BK439 := Aside0.mk (blk_drew BK439.out)
  replace BK440 := Aside0.mk (blk_drew BK440.out)
  replace HB := Aside0.mk (below_drew1 HB.out)
  refine start_ (n := 3) (S := fun w' => w'.cell? ⟨gb439, 0, none⟩ = some (.int .u64 a0_0)) (ds := []) #[false, false, false] (by kernel_rfl) rfl rfl ((blk_cell BK439.out 0).trans rfl) (fun hHeld => ?_)
  generalize w6.drew = w7 at BK439 BK440 HB hHeld ⊢
  refine pure_ (i := 1) (N := some 6) (v := ?_) (a' := ?_) #[false, true, false] rfl rfl (by kernel_rfl) (fun _ _ _ h => h) (Or.inl ⟨by rfl, ?_⟩) ?_ ?_
  rotate_left
  ·intro w'
   go_simp
   with_reducible rfl
  rotate_left
  ·simp only [Act.put, sI_, s0_, sS_, i64_w, i32_w]
   rfl
  refine take_ (i := 0) (N := some 11) (v := ?_) (a' := ?_) #[true, true, false] rfl rfl (by kernel_rfl) (fun _ _ _ h => h) (Or.inl ⟨by rfl, ?_⟩) hHeld ?_ ?_
  rotate_left
  ·intro w' s0
   go_simp
   with_reducible rfl
  rotate_left
  ·simp only [Act.put, sI_, s0_, sS_, i64_w, i32_w]
   rfl
  refine one_ (i := 2) (N := none) #[true, true, true] rfl rfl (by kernel_rfl) (by decide) (fun K hK => ?_)
  have hs8 : w7.cell? ⟨gb440, 0, none⟩ = some (.int .u64 0) := (blk_cell BK440.out 0).trans rfl
  have hfs8 := blk_frozen BK440.out 0
  have hns8_0 := NB439_440.out
  have hms8_0 := NB440_439.out
  refine skip_ (w1 := ?_) (by rfl) rfl ?_ ?_
  rotate_left
  ·go_simp
   rfl
  refine hK.out _ _ (((cell_far (p := ⟨gb440, _, none⟩) NB439_440.out _).trans (hHeld))) (fun hHeld => ?_)
  clear hK K
  refine done_ (by kernel_rfl) ?_
  try go_wp2
  refine bodyPost_ret (results_tc rfl _ _ gb440 37 #[.int .u64 a0_0] (0, 0) _ rfl (by (with_reducible repeat (first | refine blk_drewN ?_ _ | refine blk_drew ?_ | refine blk_alloc ?_ _)); refine blk_put (cs := #[.int .u64 0]) ?_ 0 _ rfl; (with_reducible repeat (first | refine blk_drewN ?_ _ | refine blk_drew ?_ | refine blk_alloc ?_ _)); exact BK440.out) Try.underlying37 rfl (by kernel_rfl)) rfl ?_
  exact ⟨tE_, dL2_ HB GE439 GE440⟩
 ·rw [if_neg c4] at H
  have c4b0 : decide (a2 < 1) = false := decide_eq_false c4
  clear c4
  replace H := Option.bind_eq_some_iff.mp H
  obtain ⟨⟨t441, t442⟩, A90, H⟩ := H
  replace H : (some (decide (t441 < a1), t442)) = some (r1, r2) := H
  have A9 := Aside0.mk A90
  clear A90
  simp only [Option.some.injEq, Prod.mk.injEq] at H
  obtain ⟨rfl, rfl⟩ := H
  go_enter Try.func31, Try.ntmps31
  try go_wp2_with (first | ((with_reducible refine gate_dst (N := 3) rfl ?_); refine box_event ?hg (N := 3) ?hd (cs := #[.int .u64 a0_0]) (t := 37) ?hr ?_; (case hd => rfl); (case hg => rfl); (case hr => first | (go_simp; done) | (go_simp; rfl)); intro gb439 hg w10 hbox hb; have BK439 := Aside0.mk (hbox); have GW439 := Aside0.mk ((dS_ hg (dL_ HB) : w.heap.size ≤ gb439)); have GE439 := Aside0.mk ((dS_ hg (dL_ HB) : w.heap.size ≤ gb439)); replace HB := Aside0.mk (below_step (dL_ HB) hb); clear hb hbox hg) | ((with_reducible refine gate_dst (N := 7) rfl ?_); refine box_event ?hg (N := 7) ?hd (cs := #[.int .u64 0]) (t := 37) ?hr ?_; (case hd => rfl); (case hg => rfl); (case hr => first | (go_simp; done) | (go_simp; rfl)); intro gb440 hg w11 hbox hb; have BK440 := Aside0.mk (hbox); have GW440 := Aside0.mk ((dS_ hg (dL1_ HB GE439) : w.heap.size ≤ gb440)); have GE440 := Aside0.mk ((dS_ hg (dL1_ HB GE439) : w.heap.size ≤ gb440)); replace HB := Aside0.mk (below_step (dL1_ HB GE439) hb); have NB439_440 := Aside0.mk ((by rw [hg]; exact Nat.ne_of_lt (blk_lt (dB_ BK439)) : gb439 ≠ gb440)); have NB440_439 := Aside0.mk ((by rw [hg]; exact Nat.ne_of_gt (blk_lt (dB_ BK439)) : gb440 ≠ gb439)); replace BK439 := Aside0.mk (blk_below (g := gb439) (o := .cells #[.int .u64 a0_0] 37 (0, 0)) (dB_ BK439) hb); clear hb hbox hg; have hnb12 := NB439_440.out; have hnc12 := NB440_439.out; have hcz13_0 : w11.cell? ⟨gb439, 0, none⟩ = some (.int .u64 a0_0) := (blk_cell BK439.out 0).trans rfl; have hfz13_0 := blk_frozen BK439.out 0) | ((with_reducible refine gate_callee (f := 42) rfl ?_); refine goesL_ (some 15) rfl rfl Try.func42 (by kernel_rfl) rfl #[.agg #[.int .u64 a0_0], .int .i64 a2] rfl tA_ ?_; (with_reducible refine (roll_Below.calls k a0_0 a2 t441 t442 _ A9.out).mono ?_); rintro e w14 ⟨rfl, hb⟩; refine ⟨_, rfl, ?_⟩; replace BK439 := Aside0.mk (blk_below (g := gb439) (o := .cells #[.int .u64 a0_0] 37 (0, 0)) (dB_ BK439) hb); replace BK440 := Aside0.mk (blk_below (g := gb440) (o := .cells #[.int .u64 0] 37 (0, 0)) (dB_ BK440) hb); replace HB := Aside0.mk (below_step (dL2_ HB GE439 GE440) hb); have hcz15_0 : w14.cell? ⟨gb439, 0, none⟩ = some (.int .u64 a0_0) := (blk_cell BK439.out 0).trans rfl; have hfz15_0 := blk_frozen BK439.out 0))
  have n0_ : Aside0 ((w14.setCell ⟨gb439, 0, none⟩ (.int .u64 t442)).heap[gb439]? = some (.cells #[.int .u64 t442] 37 (0, 0))) := ⟨by (with_reducible repeat (first | refine blk_drewN ?_ _ | refine blk_drew ?_ | refine blk_alloc ?_ _)); refine blk_put (cs := #[.int .u64 a0_0]) ?_ 0 _ rfl; (with_reducible repeat (first | refine blk_drewN ?_ _ | refine blk_drew ?_ | refine blk_alloc ?_ _)); exact BK439.out⟩
  have n1_ : Aside0 ((w14.setCell ⟨gb439, 0, none⟩ (.int .u64 t442)).heap[gb440]? = some (.cells #[.int .u64 0] 37 (0, 0))) := ⟨by (with_reducible repeat (first | refine blk_drewN ?_ _ | refine blk_drew ?_ | refine blk_alloc ?_ _)); refine blk_far ?_ NB440_439.out _; (with_reducible repeat (first | refine blk_drewN ?_ _ | refine blk_drew ?_ | refine blk_alloc ?_ _)); exact BK440.out⟩
  have n2_ : Aside0 (Below w.heap.size w (w14.setCell ⟨gb439, 0, none⟩ (.int .u64 t442))) := ⟨dL2_ HB GE439 GE440⟩
  (try clear BK439)
  (try clear BK440)
  (try clear HB)
  generalize (w14.setCell ⟨gb439, 0, none⟩ (.int .u64 t442)) = w16 at n0_ n1_ n2_ ⊢
  have BK439 := n0_
  have BK440 := n1_
  have HB := n2_
  clear n0_ n1_ n2_
  replace BK439 := Aside0.mk (blk_drew BK439.out)
  replace BK440 := Aside0.mk (blk_drew BK440.out)
  replace HB := Aside0.mk (below_drew1 HB.out)
  refine start_ (n := 6) (S := fun w' => w'.cell? ⟨gb439, 0, none⟩ = some (.int .u64 t442)) (ds := []) #[false, false, false, false, false, false] (by kernel_rfl) rfl rfl ((blk_cell BK439.out 0).trans rfl) (fun hHeld => ?_)
  generalize w16.drew = w17 at BK439 BK440 HB hHeld ⊢
  refine pure_ (i := 0) (N := some 18) (v := ?_) (a' := ?_) #[true, false, false, false, false, false] rfl rfl (by kernel_rfl) (fun _ _ _ h => h) (Or.inl ⟨by rfl, ?_⟩) ?_ ?_
  rotate_left
  ·intro w'
   go_simp
   with_reducible rfl
  rotate_left
  ·simp only [Act.put, sI_, s0_, sS_, i64_w, i32_w]
   rfl
  refine pure_ (i := 1) (N := some 19) (v := ?_) (a' := ?_) #[true, true, false, false, false, false] rfl rfl (by kernel_rfl) (fun _ _ _ h => h) (Or.inl ⟨by rfl, ?_⟩) ?_ ?_
  rotate_left
  ·intro w'
   go_simp
   with_reducible rfl
  rotate_left
  ·simp only [Act.put, sI_, s0_, sS_, i64_w, i32_w]
   rfl
  refine pure_ (i := 2) (N := some 20) (v := ?_) (a' := ?_) #[true, true, true, false, false, false] rfl rfl (by kernel_rfl) (fun _ _ _ h => h) (Or.inl ⟨by rfl, ?_⟩) ?_ ?_
  rotate_left
  ·intro w'
   go_simp
   with_reducible rfl
  rotate_left
  ·simp only [Act.put, sI_, s0_, sS_, i64_w, i32_w]
   rfl
  refine pure_ (i := 4) (N := some 6) (v := ?_) (a' := ?_) #[true, true, true, false, true, false] rfl rfl (by kernel_rfl) (fun _ _ _ h => h) (Or.inl ⟨by rfl, ?_⟩) ?_ ?_
  rotate_left
  ·intro w'
   go_simp
   with_reducible rfl
  rotate_left
  ·simp only [Act.put, sI_, s0_, sS_, i64_w, i32_w]
   rfl
  refine take_ (i := 3) (N := some 21) (v := ?_) (a' := ?_) #[true, true, true, true, true, false] rfl rfl (by kernel_rfl) (fun _ _ _ h => h) (Or.inl ⟨by rfl, ?_⟩) hHeld ?_ ?_
  rotate_left
  ·intro w' s0
   go_simp
   with_reducible rfl
  rotate_left
  ·simp only [Act.put, sI_, s0_, sS_, i64_w, i32_w]
   rfl
  refine one_ (i := 5) (N := none) #[true, true, true, true, true, true] rfl rfl (by kernel_rfl) (by decide) (fun K hK => ?_)
  have hs18 : w17.cell? ⟨gb440, 0, none⟩ = some (.int .u64 0) := (blk_cell BK440.out 0).trans rfl
  have hfs18 := blk_frozen BK440.out 0
  have hns18_0 := NB439_440.out
  have hms18_0 := NB440_439.out
  refine skip_ (w1 := ?_) (by rfl) rfl ?_ ?_
  rotate_left
  ·go_simp
   rfl
  refine hK.out _ _ (((cell_far (p := ⟨gb440, _, none⟩) NB439_440.out _).trans (hHeld))) (fun hHeld => ?_)
  clear hK K
  refine done_ (by kernel_rfl) ?_
  try go_wp2
  refine bodyPost_ret (results_tc rfl _ _ gb440 37 #[.int .u64 t442] (0, 0) _ rfl (by (with_reducible repeat (first | refine blk_drewN ?_ _ | refine blk_drew ?_ | refine blk_alloc ?_ _)); refine blk_put (cs := #[.int .u64 0]) ?_ 0 _ rfl; (with_reducible repeat (first | refine blk_drewN ?_ _ | refine blk_drew ?_ | refine blk_alloc ?_ _)); exact BK440.out) Try.underlying37 rfl (by kernel_rfl)) rfl ?_
  exact ⟨tE_, dL2_ HB GE439 GE440⟩

end Go.Proofs.Ytgnahbjpockdmab.Q
namespace Go.Proofs.Ytgnahbjpockdmab.Q
open Go.RowKit Go.Proofs.YtgnahbjpockdmabPrs Go.Proofs.YtgnahbjpockdmabOwn Go.Proofs.YtgnahbjpockdmabW.PrintWords Go.Proofs.YtgnahbjpockdmabW.PrintLast Go.Proofs.YtgnahbjpockdmabW.PrintMore
attribute [local go_sem] max2_int min2_int max_two min_two max_three min_three max_four min_four   -- for this text's walks alone
set_option linter.unusedVariables false
set_option linter.unusedSimpArgs false

/-! ### hinterlandref01_At: function 52 -/
def hinterlandref01_At.f (a0_0 : Int) (a1 : Int) : Option (Int) := some (Go.bits .xor .u64 (IntKind.u64.wrap ((Go.bits .xor .u64 (IntKind.u64.wrap ((Go.bits .xor .u64 (IntKind.u64.wrap (a0_0 + (IntKind.u64.wrap (a1 * 11400714819323198485)))) ((IntKind.u64.wrap (a0_0 + (IntKind.u64.wrap (a1 * 11400714819323198485)))) / 1073741824)) * 13787848793156543929)) ((IntKind.u64.wrap ((Go.bits .xor .u64 (IntKind.u64.wrap (a0_0 + (IntKind.u64.wrap (a1 * 11400714819323198485)))) ((IntKind.u64.wrap (a0_0 + (IntKind.u64.wrap (a1 * 11400714819323198485)))) / 1073741824)) * 13787848793156543929)) / 134217728)) * 10723151780598845931)) ((IntKind.u64.wrap ((Go.bits .xor .u64 (IntKind.u64.wrap ((Go.bits .xor .u64 (IntKind.u64.wrap (a0_0 + (IntKind.u64.wrap (a1 * 11400714819323198485)))) ((IntKind.u64.wrap (a0_0 + (IntKind.u64.wrap (a1 * 11400714819323198485)))) / 1073741824)) * 13787848793156543929)) ((IntKind.u64.wrap ((Go.bits .xor .u64 (IntKind.u64.wrap (a0_0 + (IntKind.u64.wrap (a1 * 11400714819323198485)))) ((IntKind.u64.wrap (a0_0 + (IntKind.u64.wrap (a1 * 11400714819323198485)))) / 1073741824)) * 13787848793156543929)) / 134217728)) * 10723151780598845931)) / 2147483648))
set_option maxHeartbeats 8000000 in
set_option maxRecDepth 100000 in
theorem hinterlandref01_At.calls (a0_0 : Int) (a1 : Int) (r : Int) (w : World) (h : hinterlandref01_At.f a0_0 a1 = some r) :
    Calls Try.prog 52 #[.agg #[.int .u64 a0_0], .int .u64 a1] w fun e w' => e = .returned (.int .u64 r) ∧ Below w.heap.size w w' := by
 have hu37 := Try.underlying37
 have HB := Aside0.mk (Below.refl w.heap.size w)
 have H : (some (Go.bits .xor .u64 (IntKind.u64.wrap ((Go.bits .xor .u64 (IntKind.u64.wrap ((Go.bits .xor .u64 (IntKind.u64.wrap (a0_0 + (IntKind.u64.wrap (a1 * 11400714819323198485)))) ((IntKind.u64.wrap (a0_0 + (IntKind.u64.wrap (a1 * 11400714819323198485)))) / 1073741824)) * 13787848793156543929)) ((IntKind.u64.wrap ((Go.bits .xor .u64 (IntKind.u64.wrap (a0_0 + (IntKind.u64.wrap (a1 * 11400714819323198485)))) ((IntKind.u64.wrap (a0_0 + (IntKind.u64.wrap (a1 * 11400714819323198485)))) / 1073741824)) * 13787848793156543929)) / 134217728)) * 10723151780598845931)) ((IntKind.u64.wrap ((Go.bits .xor .u64 (IntKind.u64.wrap ((Go.bits .xor .u64 (IntKind.u64.wrap (a0_0 + (IntKind.u64.wrap (a1 * 11400714819323198485)))) ((IntKind.u64.wrap (a0_0 + (IntKind.u64.wrap (a1 * 11400714819323198485)))) / 1073741824)) * 13787848793156543929)) ((IntKind.u64.wrap ((Go.bits .xor .u64 (IntKind.u64.wrap (a0_0 + (IntKind.u64.wrap (a1 * 11400714819323198485)))) ((IntKind.u64.wrap (a0_0 + (IntKind.u64.wrap (a1 * 11400714819323198485)))) / 1073741824)) * 13787848793156543929)) / 134217728)) * 10723151780598845931)) / 2147483648))) = some r := h
 clear h
 obtain rfl := Option.some.inj H
 go_enter Try.func52, Try.ntmps52
 go_wp2_with (first | ((with_reducible refine gate_dst (N := 2) rfl ?_); refine box_event ?hg (N := 2) ?hd (cs := #[.int .u64 a0_0]) (t := 37) ?hr ?_; (case hd => rfl); (case hg => rfl); (case hr => first | (go_simp; done) | (go_simp; rfl)); intro gb468 hg w3 hbox hb; have BK468 := Aside0.mk (hbox); have GW468 := Aside0.mk ((dS_ hg (dL_ HB) : w.heap.size ≤ gb468)); have GE468 := Aside0.mk ((dS_ hg (dL_ HB) : w.heap.size ≤ gb468)); replace HB := Aside0.mk (below_step (dL_ HB) hb); clear hb hbox hg; have hcz4_0 : w3.cell? ⟨gb468, 0, none⟩ = some (.int .u64 a0_0) := (blk_cell BK468.out 0).trans rfl; have hfz4_0 := blk_frozen BK468.out 0))
 go_ret
 exact ⟨tE_, dL1_ HB GE468⟩

end Go.Proofs.Ytgnahbjpockdmab.Q
