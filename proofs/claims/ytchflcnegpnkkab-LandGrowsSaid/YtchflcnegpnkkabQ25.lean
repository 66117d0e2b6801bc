-- PRINTED by print.py (a twelfth state) out of the translation. Not trusted: Lean checks it.
import Derived.Test.YtchflcnegpnkkabPrs
import Derived.Test.YtchflcnegpnkkabQ0
import Derived.Test.YtchflcnegpnkkabQ24
namespace Go.Proofs.Ytchflcnegpnkkab.Q
open Go.RowKit Go.Proofs.YtchflcnegpnkkabPrs Go.Proofs.YtchflcnegpnkkabOwn Go.Proofs.YtchflcnegpnkkabW.PrintWords Go.Proofs.YtchflcnegpnkkabW.PrintLast Go.Proofs.YtchflcnegpnkkabW.PrintMore
open List renaming setIfInBounds_toArray → sI_, set_cons_zero → s0_, set_cons_succ → sS_
attribute [local go_sem] max2_int min2_int max_two min_two max_three min_three max_four min_four   -- for this text's walks alone
set_option linter.unusedVariables false
set_option linter.unusedSimpArgs false

/-! ### roll_Below: function 25 -/
def roll_Below.l0 : Nat → Int → Int → Int → Option (Int × Int)
  | 0, _, _, _ => none
  | k + 1, x6, x7, x242000 => (roll_Next.f x242000).bind fun bt243 => (if bt243.1 ≤ (Go.bits .xor .u64 IntKind.u64.max x7) then (if x6 = 0 then (none) else (some (wrap64 (Int.tmod bt243.1 x6), bt243.2))) else (roll_Below.l0 k x6 x7 bt243.2))
def roll_Below.f (k : Nat) (a0_0 : Int) (a1 : Int) : Option (Int × Int) := if a1 < 1 then (some (0, a0_0)) else (if (IntKind.u64.wrap (a1)) = 0 then (none) else (roll_Below.l0 k (IntKind.u64.wrap (a1)) (Int.tmod (IntKind.u64.wrap (-(IntKind.u64.wrap (a1)))) (IntKind.u64.wrap (a1))) a0_0))
theorem roll_Below.mono_l : ∀ k, (∀ y0 y1 y2, LeO (roll_Below.l0 k y0 y1 y2) (roll_Below.l0 (k + 1) y0 y1 y2))
  | 0 => fun _ _ _ r h => by simp [roll_Below.l0] at h
  | k + 1 => by
    have ih0 := roll_Below.mono_l k
    · intro y0 y1 y2
      unfold roll_Below.l0
      repeat' first
      | (with_reducible first | exact ih0 _ _ _ | exact LeO.refl _ | exact LeO.none _ | refine LeO.ite ?_ ?_ | refine LeO.bind ?_ (fun _ => ?_))
      | exact ih0 _ _ _
      | exact LeO.none _
      | refine LeO.ite ?_ ?_
      | refine LeO.bind ?_ (fun _ => ?_)
theorem roll_Below.mono : ∀ a0 a1 k, LeO (roll_Below.f k a0 a1) (roll_Below.f (k + 1) a0 a1) := by
  intro a0 a1 k
  have ih0 := roll_Below.mono_l k
  unfold roll_Below.f
  repeat' first
      | (with_reducible first | exact ih0 _ _ _ | exact LeO.refl _ | exact LeO.none _ | refine LeO.ite ?_ ?_ | refine LeO.bind ?_ (fun _ => ?_))
      | exact ih0 _ _ _
      | exact LeO.none _
      | refine LeO.ite ?_ ?_
      | refine LeO.bind ?_ (fun _ => ?_)
set_option maxHeartbeats 8000000 in
set_option maxRecDepth 100000 in
theorem roll_Below.calls (k : Nat) (a0_0 : Int) (a1 : Int) (r1 : Int) (r2 : Int) (w : World) (h : roll_Below.f k a0_0 a1 = some (r1, r2)) :
    Calls Try.prog 25 #[.agg #[.int .u64 a0_0], .int .i64 a1] w fun e w' => e = .returned (.tuple #[.int .i64 r1, .agg #[.int .u64 r2]]) ∧ Below w.heap.size w w' := by
 have hu52 := Try.underlying52
 have HB := Aside0.mk (Below.refl w.heap.size w)
 have H : (if a1 < 1 then (some (0, a0_0)) else (if (IntKind.u64.wrap (a1)) = 0 then (none) else (roll_Below.l0 k (IntKind.u64.wrap (a1)) (Int.tmod (IntKind.u64.wrap (-(IntKind.u64.wrap (a1)))) (IntKind.u64.wrap (a1))) a0_0))) = some (r1, r2) := h
 clear h
 by_cases c3 : a1 < 1
 ·rw [if_pos c3] at H
  have c3b0 : decide (a1 < 1) = true := decide_eq_true c3
  clear c3
  simp only [Option.some.injEq, Prod.mk.injEq] at H
  obtain ⟨rfl, rfl⟩ := H
  go_enter Try.func25, Try.ntmps25
  try go_wp2_with (first | ((with_reducible refine gate_dst (N := 2) rfl ?_); refine box_event ?hg (N := 2) ?hd (cs := #[.int .u64 a0_0]) (t := 52) ?hr ?_; (case hd => rfl); (case hg => rfl); (case hr => first | (go_simp; done) | (go_simp; rfl)); intro gb241 hg w4 hbox hb; have BK241 := Aside0.mk (hbox); have GW241 := Aside0.mk ((dS_ hg (dL_ HB) : w.heap.size ≤ gb241)); have GE241 := Aside0.mk ((dS_ hg (dL_ HB) : w.heap.size ≤ gb241)); replace HB := Aside0.mk (below_step (dL_ HB) hb); clear hb hbox hg) | ((with_reducible refine gate_dst (N := 5) rfl ?_); refine box_event ?hg (N := 5) ?hd (cs := #[.int .u64 0]) (t := 52) ?hr ?_; (case hd => rfl); (case hg => rfl); (case hr => first | (go_simp; done) | (go_simp; rfl)); intro gb242 hg w5 hbox hb; have BK242 := Aside0.mk (hbox); have GW242 := Aside0.mk ((dS_ hg (dL1_ HB GE241) : w.heap.size ≤ gb242)); have GE242 := Aside0.mk ((dS_ hg (dL1_ HB GE241) : w.heap.size ≤ gb242)); replace HB := Aside0.mk (below_step (dL1_ HB GE241) hb); have NB241_242 := Aside0.mk ((by rw [hg]; exact Nat.ne_of_lt (blk_lt (dB_ BK241)) : gb241 ≠ gb242)); have NB242_241 := Aside0.mk ((by rw [hg]; exact Nat.ne_of_gt (blk_lt (dB_ BK241)) : gb242 ≠ gb241)); replace BK241 := Aside0.mk (blk_below (g := gb241) (o := .cells #[.int .u64 a0_0] 52 (0, 0)) (dB_ BK241) hb); clear hb hbox hg))
  replace BK241 := Aside0.mk (blk_drew BK241.out)
  replace BK242 := Aside0.mk (blk_drew BK242.out)
  replace HB := Aside0.mk (below_drew1 HB.out)
  refine start_ (n := 3) (S := fun w' => w'.cell? ⟨gb241, 0, none⟩ = some (.int .u64 a0_0)) (ds := []) #[false, false, false] (by kernel_rfl) rfl rfl ((blk_cell BK241.out 0).trans rfl) (fun hHeld => ?_)
  generalize w5.drew = w6 at BK241 BK242 HB hHeld ⊢
  refine pure_ (i := 1) (N := some 4) (v := ?_) (a' := ?_) #[false, true, false] rfl rfl (by kernel_rfl) (fun _ _ _ h => h) (Or.inl ⟨by rfl, ?_⟩) ?_ ?_; rotate_left; (intro w'; go_simp; with_reducible rfl); rotate_left; (simp only [Act.put, sI_, s0_, sS_, i64_w, i32_w]; rfl)
  refine take_ (i := 0) (N := some 12) (v := ?_) (a' := ?_) #[true, true, false] rfl rfl (by kernel_rfl) (fun _ _ _ h => h) (Or.inl ⟨by rfl, ?_⟩) hHeld ?_ ?_; rotate_left; (intro w' s0; go_simp; with_reducible rfl); rotate_left; (simp only [Act.put, sI_, s0_, sS_, i64_w, i32_w]; rfl)
  refine one_ (i := 2) (N := none) #[true, true, true] rfl rfl (by kernel_rfl) (by decide) (fun K hK => ?_)
  have hs7 : w6.cell? ⟨gb242, 0, none⟩ = some (.int .u64 0) := (blk_cell BK242.out 0).trans rfl
  have hfs7 := blk_frozen BK242.out 0
  have hns7_0 := NB241_242.out
  have hms7_0 := NB242_241.out
  refine skip_ (w1 := ?_) (by rfl) rfl ?_ ?_
  rotate_left
  ·go_simp
   rfl
  refine hK.out _ _ (((cell_far (p := ⟨gb242, _, none⟩) NB241_242.out _).trans (hHeld))) (fun hHeld => ?_)
  clear hK K
  refine done_ (by kernel_rfl) ?_
  try go_wp2
  refine bodyPost_ret (results_tc rfl _ _ gb242 52 #[.int .u64 a0_0] (0, 0) _ rfl (by (with_reducible repeat (first | refine blk_drewN ?_ _ | refine blk_drew ?_ | refine blk_alloc ?_ _)); refine blk_put (cs := #[.int .u64 0]) ?_ 0 _ rfl; (with_reducible repeat (first | refine blk_drewN ?_ _ | refine blk_drew ?_ | refine blk_alloc ?_ _)); exact BK242.out) Try.underlying52 rfl (by kernel_rfl)) rfl ?_
  exact ⟨tE_, dL2_ HB GE241 GE242⟩
 ·rw [if_neg c3] at H
  have c3b0 : decide (a1 < 1) = false := decide_eq_false c3
  clear c3
  by_cases c8 : (IntKind.u64.wrap (a1)) = 0
  ·rw [if_pos c8] at H
   exact absurd H (by simp)
  ·rw [if_neg c8] at H
   have c8b0 : ((IntKind.u64.wrap (a1)) == 0) = false := beq_eq_false_iff_ne.mpr c8
   have c8b1 : ((IntKind.u64.wrap (a1)) != 0) = true := bne_iff_ne.mpr c8
   have H' := Aside0.mk H
   clear H
   go_enter Try.func25, Try.ntmps25
   go_wp2_with (first | ((with_reducible refine gate_dst (N := 2) rfl ?_); refine box_event ?hg (N := 2) ?hd (cs := #[.int .u64 a0_0]) (t := 52) ?hr ?_; (case hd => rfl); (case hg => rfl); (case hr => first | (go_simp; done) | (go_simp; rfl)); intro gb241 hg w9 hbox hb; have BK241 := Aside0.mk (hbox); have GW241 := Aside0.mk ((dS_ hg (dL_ HB) : w.heap.size ≤ gb241)); have GE241 := Aside0.mk ((dS_ hg (dL_ HB) : w.heap.size ≤ gb241)); replace HB := Aside0.mk (below_step (dL_ HB) hb); clear hb hbox hg) | ((with_reducible refine gate_dst (N := 5) rfl ?_); refine box_event ?hg (N := 5) ?hd (cs := #[.int .u64 0]) (t := 52) ?hr ?_; (case hd => rfl); (case hg => rfl); (case hr => first | (go_simp; done) | (go_simp; rfl)); intro gb242 hg w10 hbox hb; have BK242 := Aside0.mk (hbox); have GW242 := Aside0.mk ((dS_ hg (dL1_ HB GE241) : w.heap.size ≤ gb242)); have GE242 := Aside0.mk ((dS_ hg (dL1_ HB GE241) : w.heap.size ≤ gb242)); replace HB := Aside0.mk (below_step (dL1_ HB GE241) hb); have NB241_242 := Aside0.mk ((by rw [hg]; exact Nat.ne_of_lt (blk_lt (dB_ BK241)) : gb241 ≠ gb242)); have NB242_241 := Aside0.mk ((by rw [hg]; exact Nat.ne_of_gt (blk_lt (dB_ BK241)) : gb242 ≠ gb241)); replace BK241 := Aside0.mk (blk_below (g := gb241) (o := .cells #[.int .u64 a0_0] 52 (0, 0)) (dB_ BK241) hb); clear hb hbox hg))
   go_loopg [] k (fun kq w' => ∃ (x242000_1 : Int) (x243000_1 : Int), Aside0 (roll_Below.l0 kq (IntKind.u64.wrap (a1)) (Int.tmod (IntKind.u64.wrap (-(IntKind.u64.wrap (a1)))) (IntKind.u64.wrap (a1))) x242000_1 = some (r1, r2)) ∧ Aside0 (kq ≤ k) ∧ Aside0 (w'.heap[gb241]? = some (.cells #[.int .u64 x242000_1] 52 (0, 0))) ∧ Aside0 (w'.heap[gb242]? = some (.cells #[.int .u64 x243000_1] 52 (0, 0))) ∧ Aside0 (Below w.heap.size w w'))
   case atStart => exact ⟨(a0_0), (0), H', ⟨Nat.le_refl _⟩, ⟨dB_ BK241⟩, ⟨dB_ BK242⟩, ⟨dL2_ HB GE241 GE242⟩⟩
   case round =>
    clear H'
    try clear c3
    try clear c3b0
    try clear c8
    try clear c8b0
    try clear c8b1
    obtain ⟨x242000_1, x243000_1, HA, HK1, BK241, BK242, HB⟩ := hrel
    cases gk with
    | zero => exact absurd HA.out (by simp [roll_Below.l0])
    | succ k1 =>
     have H := HA.out
     clear HA
     simp only [roll_Below.l0] at H
     replace H := Option.bind_eq_some_iff.mp H
     obtain ⟨⟨t243, t244⟩, A110, H⟩ := H
     replace H : (if t243 ≤ (Go.bits .xor .u64 IntKind.u64.max (Int.tmod (IntKind.u64.wrap (-(IntKind.u64.wrap (a1)))) (IntKind.u64.wrap (a1)))) then (if (IntKind.u64.wrap (a1)) = 0 then (none) else (some (wrap64 (Int.tmod t243 (IntKind.u64.wrap (a1))), t244))) else (roll_Below.l0 k1 (IntKind.u64.wrap (a1)) (Int.tmod (IntKind.u64.wrap (-(IntKind.u64.wrap (a1)))) (IntKind.u64.wrap (a1))) t244)) = some (r1, r2) := H
     have A11 := Aside0.mk A110
     clear A110
     by_cases c12 : t243 ≤ (Go.bits .xor .u64 IntKind.u64.max (Int.tmod (IntKind.u64.wrap (-(IntKind.u64.wrap (a1)))) (IntKind.u64.wrap (a1))))
     ·rw [if_pos c12] at H
      have c12b0 : decide (t243 ≤ (Go.bits .xor .u64 IntKind.u64.max (Int.tmod (IntKind.u64.wrap (-(IntKind.u64.wrap (a1)))) (IntKind.u64.wrap (a1))))) = true := decide_eq_true c12
      clear c12
      by_cases c13 : (IntKind.u64.wrap (a1)) = 0
      ·rw [if_pos c13] at H
       exact absurd H (by simp)
      ·rw [if_neg c13] at H
       have c13b0 : ((IntKind.u64.wrap (a1)) == 0) = false := beq_eq_false_iff_ne.mpr c13
       have c13b1 : ((IntKind.u64.wrap (a1)) != 0) = true := bne_iff_ne.mpr c13
       simp only [Option.some.injEq, Prod.mk.injEq] at H
       obtain ⟨rfl, rfl⟩ := H
       have hnb14 := NB241_242.out
       have hnc14 := NB242_241.out
       have hcz15_0 : wr.cell? ⟨gb241, 0, none⟩ = some (.int .u64 x242000_1) := (blk_cell BK241.out 0).trans rfl
       have hfz15_0 := blk_frozen BK241.out 0
       try go_wp2_with (first | ((with_reducible refine gate_callee (f := 36) rfl ?_); refine goesL_ (some 21) rfl rfl Try.func36 (by kernel_rfl) rfl #[.agg #[.int .u64 x242000_1]] rfl tA_ ?_; (with_reducible refine (roll_Next.calls x242000_1 t243 t244 _ A11.out).mono ?_); rintro e w16 ⟨rfl, hb⟩; refine ⟨_, rfl, ?_⟩; replace BK241 := Aside0.mk (blk_below (g := gb241) (o := .cells #[.int .u64 x242000_1] 52 (0, 0)) (dB_ BK241) hb); replace BK242 := Aside0.mk (blk_below (g := gb242) (o := .cells #[.int .u64 x243000_1] 52 (0, 0)) (dB_ BK242) hb); replace HB := Aside0.mk (below_step (dL2_ HB GE241 GE242) hb)) | ((with_reducible refine gate_dst (N := 9) rfl ?_); refine box_event ?hg (N := 9) ?hd (cs := #[.int .u64 0]) (t := 52) ?hr ?_; (case hd => rfl); (case hg => rfl); (case hr => first | (go_simp; done) | (go_simp; rfl)); intro gb245 hg w17 hbox hb; have BK245 := Aside0.mk (hbox); have GW245 := Aside0.mk ((dS_ hg (dL2_ HB GE241 GE242) : w.heap.size ≤ gb245)); have GE245 := Aside0.mk ((dS_ hg (dL2_ HB GE241 GE242) : w.heap.size ≤ gb245)); replace HB := Aside0.mk (below_step (dL2_ HB GE241 GE242) hb); have NB241_245 := Aside0.mk ((by rw [hg]; exact Nat.ne_of_lt (blk_lt (dB_ BK241)) : gb241 ≠ gb245)); have NB245_241 := Aside0.mk ((by rw [hg]; exact Nat.ne_of_gt (blk_lt (dB_ BK241)) : gb245 ≠ gb241)); replace BK241 := Aside0.mk (blk_below (g := gb241) (o := .cells #[.int .u64 x242000_1] 52 (0, 0)) (dB_ BK241) hb); have NB242_245 := Aside0.mk ((by rw [hg]; exact Nat.ne_of_lt (blk_lt (dB_ BK242)) : gb242 ≠ gb245)); have NB245_242 := Aside0.mk ((by rw [hg]; exact Nat.ne_of_gt (blk_lt (dB_ BK242)) : gb245 ≠ gb242)); replace BK242 := Aside0.mk (blk_below (g := gb242) (o := .cells #[.int .u64 x243000_1] 52 (0, 0)) (dB_ BK242) hb); clear hb hbox hg; have hnb18 := NB245_241.out; have hnc18 := NB241_245.out; have hnb19 := NB245_242.out; have hnc19 := NB242_245.out; have hcz20_0 : w17.cell? ⟨gb245, 0, none⟩ = some (.int .u64 0) := (blk_cell BK245.out 0).trans rfl; have hfz20_0 := blk_frozen BK245.out 0; have hcz21_0 : w17.cell? ⟨gb241, 0, none⟩ = some (.int .u64 x242000_1) := (blk_cell BK241.out 0).trans rfl; have hfz21_0 := blk_frozen BK241.out 0))
       have n0_ : Aside0 (((w17.setCell ⟨gb245, 0, none⟩ (.int .u64 t244)).setCell ⟨gb241, 0, none⟩ (.int .u64 t244)).heap[gb241]? = some (.cells #[.int .u64 t244] 52 (0, 0))) := ⟨by (with_reducible repeat (first | refine blk_drewN ?_ _ | refine blk_drew ?_ | refine blk_alloc ?_ _)); refine blk_put (cs := #[.int .u64 x242000_1]) ?_ 0 _ rfl; (with_reducible repeat (first | refine blk_drewN ?_ _ | refine blk_drew ?_ | refine blk_alloc ?_ _)); refine blk_far ?_ NB241_245.out _; (with_reducible repeat (first | refine blk_drewN ?_ _ | refine blk_drew ?_ | refine blk_alloc ?_ _)); exact BK241.out⟩
       have n1_ : Aside0 (((w17.setCell ⟨gb245, 0, none⟩ (.int .u64 t244)).setCell ⟨gb241, 0, none⟩ (.int .u64 t244)).heap[gb242]? = some (.cells #[.int .u64 x243000_1] 52 (0, 0))) := ⟨by (with_reducible repeat (first | refine blk_drewN ?_ _ | refine blk_drew ?_ | refine blk_alloc ?_ _)); refine blk_far ?_ NB242_241.out _; (with_reducible repeat (first | refine blk_drewN ?_ _ | refine blk_drew ?_ | refine blk_alloc ?_ _)); refine blk_far ?_ NB242_245.out _; (with_reducible repeat (first | refine blk_drewN ?_ _ | refine blk_drew ?_ | refine blk_alloc ?_ _)); exact BK242.out⟩
       have n2_ : Aside0 (((w17.setCell ⟨gb245, 0, none⟩ (.int .u64 t244)).setCell ⟨gb241, 0, none⟩ (.int .u64 t244)).heap[gb245]? = some (.cells #[.int .u64 t244] 52 (0, 0))) := ⟨by (with_reducible repeat (first | refine blk_drewN ?_ _ | refine blk_drew ?_ | refine blk_alloc ?_ _)); refine blk_far ?_ NB245_241.out _; (with_reducible repeat (first | refine blk_drewN ?_ _ | refine blk_drew ?_ | refine blk_alloc ?_ _)); refine blk_put (cs := #[.int .u64 0]) ?_ 0 _ rfl; (with_reducible repeat (first | refine blk_drewN ?_ _ | refine blk_drew ?_ | refine blk_alloc ?_ _)); exact BK245.out⟩
       have n3_ : Aside0 (Below w.heap.size w ((w17.setCell ⟨gb245, 0, none⟩ (.int .u64 t244)).setCell ⟨gb241, 0, none⟩ (.int .u64 t244))) := ⟨dL3_ HB GE241 GE242 GE245⟩
       (try clear BK241)
       (try clear BK242)
       (try clear BK245)
       (try clear HB)
       generalize ((w17.setCell ⟨gb245, 0, none⟩ (.int .u64 t244)).setCell ⟨gb241, 0, none⟩ (.int .u64 t244)) = w22 at n0_ n1_ n2_ n3_ ⊢
       have BK241 := n0_
       have BK242 := n1_
       have BK245 := n2_
       have HB := n3_
       clear n0_ n1_ n2_ n3_
       replace BK241 := Aside0.mk (blk_drew BK241.out)
       replace BK242 := Aside0.mk (blk_drew BK242.out)
       replace BK245 := Aside0.mk (blk_drew BK245.out)
       replace HB := Aside0.mk (below_drew1 HB.out)
       refine start_ (n := 7) (S := fun w' => w'.cell? ⟨gb241, 0, none⟩ = some (.int .u64 t244)) (ds := []) #[false, false, false, false, false, false, false] (by kernel_rfl) rfl rfl ((blk_cell BK241.out 0).trans rfl) (fun hHeld => ?_)
       generalize w22.drew = w23 at BK241 BK242 BK245 HB hHeld ⊢
       refine pure_ (i := 0) (N := some 29) (v := ?_) (a' := ?_) (bA 1 7) rfl rfl (by kernel_rfl) (fun _ _ _ h => h) (Or.inl ⟨by rfl, ?_⟩) ?_ ?_; rotate_left; (intro w'; go_simp; with_reducible rfl); rotate_left; (simp only [Act.put, sI_, s0_, sS_, i64_w, i32_w]; rfl)
       refine pure_ (i := 1) (N := some 30) (v := ?_) (a' := ?_) (bA 2 7) rfl rfl (by kernel_rfl) (fun _ _ _ h => h) (Or.inl ⟨by rfl, ?_⟩) ?_ ?_; rotate_left; (intro w'; go_simp; with_reducible rfl); rotate_left; (simp only [Act.put, sI_, s0_, sS_, i64_w, i32_w]; rfl)
       refine pure_ (i := 2) (N := some 31) (v := ?_) (a' := ?_) (bA 3 7) rfl rfl (by kernel_rfl) (fun _ _ _ h => h) (Or.inl ⟨by rfl, ?_⟩) ?_ ?_; rotate_left; (intro w'; go_simp; with_reducible rfl); rotate_left; (simp only [Act.put, sI_, s0_, sS_, i64_w, i32_w]; rfl)
       refine pure_ (i := 3) (N := some 32) (v := ?_) (a' := ?_) (bA 4 7) rfl rfl (by kernel_rfl) (fun _ _ _ h => h) (Or.inl ⟨by rfl, ?_⟩) ?_ ?_; rotate_left; (intro w'; go_simp; with_reducible rfl); rotate_left; (simp only [Act.put, sI_, s0_, sS_, i64_w, i32_w]; rfl)
       refine pure_ (i := 5) (N := some 4) (v := ?_) (a' := ?_) #[true, true, true, true, false, true, false] rfl rfl (by kernel_rfl) (fun _ _ _ h => h) (Or.inl ⟨by rfl, ?_⟩) ?_ ?_; rotate_left; (intro w'; go_simp; with_reducible rfl); rotate_left; (simp only [Act.put, sI_, s0_, sS_, i64_w, i32_w]; rfl)
       refine take_ (i := 4) (N := some 33) (v := ?_) (a' := ?_) (bA 6 7) rfl rfl (by kernel_rfl) (fun _ _ _ h => h) (Or.inl ⟨by rfl, ?_⟩) hHeld ?_ ?_; rotate_left; (intro w' s0; go_simp; with_reducible rfl); rotate_left; (simp only [Act.put, sI_, s0_, sS_, i64_w, i32_w]; rfl)
       refine one_ (i := 6) (N := none) (bA 7 7) rfl rfl (by kernel_rfl) (by decide) (fun K hK => ?_)
       have hs24 : w23.cell? ⟨gb242, 0, none⟩ = some (.int .u64 x243000_1) := (blk_cell BK242.out 0).trans rfl
       have hfs24 := blk_frozen BK242.out 0
       have hns24_0 := NB241_242.out
       have hns24_2 := NB245_242.out
       have hms24_0 := NB242_241.out
       have hms24_2 := NB242_245.out
       refine skip_ (w1 := ?_) (by rfl) rfl ?_ ?_
       rotate_left
       ·go_simp
        rfl
       refine hK.out _ _ (((cell_far (p := ⟨gb242, _, none⟩) NB241_242.out _).trans (hHeld))) (fun hHeld => ?_)
       clear hK K
       refine done_ (by kernel_rfl) ?_
       try go_wp2
       refine bodyPost_ret (results_tc rfl _ _ gb242 52 #[.int .u64 t244] (0, 0) _ rfl (by (with_reducible repeat (first | refine blk_drewN ?_ _ | refine blk_drew ?_ | refine blk_alloc ?_ _)); refine blk_put (cs := #[.int .u64 x243000_1]) ?_ 0 _ rfl; (with_reducible repeat (first | refine blk_drewN ?_ _ | refine blk_drew ?_ | refine blk_alloc ?_ _)); exact BK242.out) Try.underlying52 rfl (by kernel_rfl)) rfl ?_
       exact ⟨tE_, dL3_ HB GE241 GE242 GE245⟩
     ·rw [if_neg c12] at H
      have c12b0 : decide (t243 ≤ (Go.bits .xor .u64 IntKind.u64.max (Int.tmod (IntKind.u64.wrap (-(IntKind.u64.wrap (a1)))) (IntKind.u64.wrap (a1))))) = false := decide_eq_false c12
      clear c12
      have H' := Aside0.mk H
      clear H
      have hnb25 := NB241_242.out
      have hnc25 := NB242_241.out
      have hcz26_0 : wr.cell? ⟨gb241, 0, none⟩ = some (.int .u64 x242000_1) := (blk_cell BK241.out 0).trans rfl
      have hfz26_0 := blk_frozen BK241.out 0
      go_wp2_with (first | ((with_reducible refine gate_callee (f := 36) rfl ?_); refine goesL_ (some 21) rfl rfl Try.func36 (by kernel_rfl) rfl #[.agg #[.int .u64 x242000_1]] rfl tA_ ?_; (with_reducible refine (roll_Next.calls x242000_1 t243 t244 _ A11.out).mono ?_); rintro e w27 ⟨rfl, hb⟩; refine ⟨_, rfl, ?_⟩; replace BK241 := Aside0.mk (blk_below (g := gb241) (o := .cells #[.int .u64 x242000_1] 52 (0, 0)) (dB_ BK241) hb); replace BK242 := Aside0.mk (blk_below (g := gb242) (o := .cells #[.int .u64 x243000_1] 52 (0, 0)) (dB_ BK242) hb); replace HB := Aside0.mk (below_step (dL2_ HB GE241 GE242) hb)) | ((with_reducible refine gate_dst (N := 9) rfl ?_); refine box_event ?hg (N := 9) ?hd (cs := #[.int .u64 0]) (t := 52) ?hr ?_; (case hd => rfl); (case hg => rfl); (case hr => first | (go_simp; done) | (go_simp; rfl)); intro gb245 hg w28 hbox hb; have BK245 := Aside0.mk (hbox); have GW245 := Aside0.mk ((dS_ hg (dL2_ HB GE241 GE242) : w.heap.size ≤ gb245)); have GE245 := Aside0.mk ((dS_ hg (dL2_ HB GE241 GE242) : w.heap.size ≤ gb245)); replace HB := Aside0.mk (below_step (dL2_ HB GE241 GE242) hb); have NB241_245 := Aside0.mk ((by rw [hg]; exact Nat.ne_of_lt (blk_lt (dB_ BK241)) : gb241 ≠ gb245)); have NB245_241 := Aside0.mk ((by rw [hg]; exact Nat.ne_of_gt (blk_lt (dB_ BK241)) : gb245 ≠ gb241)); replace BK241 := Aside0.mk (blk_below (g := gb241) (o := .cells #[.int .u64 x242000_1] 52 (0, 0)) (dB_ BK241) hb); have NB242_245 := Aside0.mk ((by rw [hg]; exact Nat.ne_of_lt (blk_lt (dB_ BK242)) : gb242 ≠ gb245)); have NB245_242 := Aside0.mk ((by rw [hg]; exact Nat.ne_of_gt (blk_lt (dB_ BK242)) : gb245 ≠ gb242)); replace BK242 := Aside0.mk (blk_below (g := gb242) (o := .cells #[.int .u64 x243000_1] 52 (0, 0)) (dB_ BK242) hb); clear hb hbox hg; have hnb29 := NB245_241.out; have hnc29 := NB241_245.out; have hnb30 := NB245_242.out; have hnc30 := NB242_245.out; have hcz31_0 : w28.cell? ⟨gb245, 0, none⟩ = some (.int .u64 0) := (blk_cell BK245.out 0).trans rfl; have hfz31_0 := blk_frozen BK245.out 0; have hcz32_0 : w28.cell? ⟨gb241, 0, none⟩ = some (.int .u64 x242000_1) := (blk_cell BK241.out 0).trans rfl; have hfz32_0 := blk_frozen BK241.out 0))
      go_roundg k1
      case measure => have := HK1.out; omega
      case rel => exact ⟨(t244), (x243000_1), H', ⟨by have := HK1.out; omega⟩, ⟨by (with_reducible repeat (first | refine blk_drewN ?_ _ | refine blk_drew ?_ | refine blk_alloc ?_ _)); refine blk_put (cs := #[.int .u64 x242000_1]) ?_ 0 _ rfl; (with_reducible repeat (first | refine blk_drewN ?_ _ | refine blk_drew ?_ | refine blk_alloc ?_ _)); refine blk_far ?_ NB241_245.out _; (with_reducible repeat (first | refine blk_drewN ?_ _ | refine blk_drew ?_ | refine blk_alloc ?_ _)); exact BK241.out⟩, ⟨by (with_reducible repeat (first | refine blk_drewN ?_ _ | refine blk_drew ?_ | refine blk_alloc ?_ _)); refine blk_far ?_ NB242_241.out _; (with_reducible repeat (first | refine blk_drewN ?_ _ | refine blk_drew ?_ | refine blk_alloc ?_ _)); refine blk_far ?_ NB242_245.out _; (with_reducible repeat (first | refine blk_drewN ?_ _ | refine blk_drew ?_ | refine blk_alloc ?_ _)); exact BK242.out⟩, ⟨dL3_ HB GE241 GE242 GE245⟩⟩

end Go.Proofs.Ytchflcnegpnkkab.Q
