-- PRINTED by print.py (a twelfth state) out of the translation. Not trusted: Lean checks it.
import Derived.Test.YtchflcnegpnkkabPrs
import Derived.Test.YtchflcnegpnkkabQ0
import Derived.Test.YtchflcnegpnkkabQ31
namespace Go.Proofs.Ytchflcnegpnkkab.Q
open Go.RowKit Go.Proofs.YtchflcnegpnkkabPrs Go.Proofs.YtchflcnegpnkkabOwn Go.Proofs.YtchflcnegpnkkabW.PrintWords Go.Proofs.YtchflcnegpnkkabW.PrintLast Go.Proofs.YtchflcnegpnkkabW.PrintMore
open List renaming setIfInBounds_toArray → sI_, set_cons_zero → s0_, set_cons_succ → sS_
attribute [local go_sem] max2_int min2_int max_two min_two max_three min_three max_four min_four   -- for this text's walks alone
set_option linter.unusedVariables false
set_option linter.unusedSimpArgs false

/-! ### hinterlandref01_Below: function 29 -/
mutual
def hinterlandref01_Below.l0 : Nat → Int → Int → Int → Int → Option (Int × Int)
  | 0, _, _, _, _ => none
  | k + 1, x6, x7, x8, x303000 => (hinterlandref01_At.f x303000 x8).bind fun t304 => (if x7 = 0 then (hinterlandref01_Below.j1 k x6 x7 x8 t304 true x303000) else (hinterlandref01_Below.j1 k x6 x7 x8 t304 (decide (t304 < (IntKind.u64.wrap (-x7)))) x303000))
def hinterlandref01_Below.j1 : Nat → Int → Int → Int → Int → Bool → Int → Option (Int × Int)
  | 0, _, _, _, _, _, _ => none
  | k + 1, x6, x7, x8, x9, x32, x303000 => if x32 = true then (if x6 = 0 then (none) else (some (wrap64 (Int.tmod x9 x6), IntKind.u64.wrap (x303000 + (IntKind.u64.wrap (x8 * 11400714819323198485)))))) else (hinterlandref01_Below.l0 k x6 x7 (IntKind.u64.wrap (x8 + 1)) x303000)
end
def hinterlandref01_Below.f (k : Nat) (a0_0 : Int) (a1 : Int) : Option (Int × Int) := if a1 < 1 then (some (0, a0_0)) else (if (IntKind.u64.wrap (a1)) = 0 then (none) else (hinterlandref01_Below.l0 k (IntKind.u64.wrap (a1)) (Int.tmod (IntKind.u64.wrap (((18446744073709551615 : Int) % (IntKind.u64.wrap (a1))) + 1)) (IntKind.u64.wrap (a1))) 1 a0_0))
theorem hinterlandref01_Below.mono_l : ∀ k, (∀ y0 y1 y2 y3, LeO (hinterlandref01_Below.l0 k y0 y1 y2 y3) (hinterlandref01_Below.l0 (k + 1) y0 y1 y2 y3)) ∧ (∀ y0 y1 y2 y3 y4 y5, LeO (hinterlandref01_Below.j1 k y0 y1 y2 y3 y4 y5) (hinterlandref01_Below.j1 (k + 1) y0 y1 y2 y3 y4 y5))
  | 0 => ⟨fun _ _ _ _ r h => by simp [hinterlandref01_Below.l0] at h, fun _ _ _ _ _ _ r h => by simp [hinterlandref01_Below.j1] at h⟩
  | k + 1 => by
    obtain ⟨ih0, ih1⟩ := hinterlandref01_Below.mono_l k
    refine ⟨?_, ?_⟩
    · intro y0 y1 y2 y3
      unfold hinterlandref01_Below.l0
      repeat' first
      | (with_reducible first | exact ih0 _ _ _ _ | exact ih1 _ _ _ _ _ _ | exact LeO.refl _ | exact LeO.none _ | refine LeO.ite ?_ ?_ | refine LeO.bind ?_ (fun _ => ?_))
      | exact ih0 _ _ _ _
      | exact ih1 _ _ _ _ _ _
      | exact LeO.none _
      | refine LeO.ite ?_ ?_
      | refine LeO.bind ?_ (fun _ => ?_)
    · intro y0 y1 y2 y3 y4 y5
      unfold hinterlandref01_Below.j1
      repeat' first
      | (with_reducible first | exact ih0 _ _ _ _ | exact ih1 _ _ _ _ _ _ | exact LeO.refl _ | exact LeO.none _ | refine LeO.ite ?_ ?_ | refine LeO.bind ?_ (fun _ => ?_))
      | exact ih0 _ _ _ _
      | exact ih1 _ _ _ _ _ _
      | exact LeO.none _
      | refine LeO.ite ?_ ?_
      | refine LeO.bind ?_ (fun _ => ?_)
theorem hinterlandref01_Below.mono : ∀ a0 a1 k, LeO (hinterlandref01_Below.f k a0 a1) (hinterlandref01_Below.f (k + 1) a0 a1) := by
  intro a0 a1 k
  obtain ⟨ih0, ih1⟩ := hinterlandref01_Below.mono_l k
  unfold hinterlandref01_Below.f
  repeat' first
      | (with_reducible first | exact ih0 _ _ _ _ | exact ih1 _ _ _ _ _ _ | exact LeO.refl _ | exact LeO.none _ | refine LeO.ite ?_ ?_ | refine LeO.bind ?_ (fun _ => ?_))
      | exact ih0 _ _ _ _
      | exact ih1 _ _ _ _ _ _
      | exact LeO.none _
      | refine LeO.ite ?_ ?_
      | refine LeO.bind ?_ (fun _ => ?_)
def hinterlandref01_Below.T9 : Bool × List (List Nat × List Nat) := (true, [([], []), ([], []), ([0, 1], [0, 1]), ([2], [2]), ([], []), ([4], [4]), ([], []), ([6], [6]), ([5, 7], [5, 7]), ([8], [8]), ([3, 0, 1, 2, 3], [3]), ([9, 10, 0, 1, 2, 3, 4, 5, 6, 7, 8, 9, 10], [9])])
def hinterlandref01_Below.B9 : List Nat := [0, 0, 3, 7, 0, 16, 0, 64, 240, 496, 15, 2047]
theorem hinterlandref01_Below.tab9 : rtab .any (opsOf Try.f29 9) = hinterlandref01_Below.T9 := by kernel_rfl
theorem hinterlandref01_Below.bits9 : waitsOk hinterlandref01_Below.T9.2 hinterlandref01_Below.B9 = true := by kernel_rfl
set_option maxHeartbeats 8000000 in
set_option maxRecDepth 100000 in
theorem hinterlandref01_Below.calls (k : Nat) (a0_0 : Int) (a1 : Int) (r1 : Int) (r2 : Int) (w : World) (h : hinterlandref01_Below.f k a0_0 a1 = some (r1, r2)) :
    Calls Try.prog 29 #[.agg #[.int .u64 a0_0], .int .i64 a1] w fun e w' => e = .returned (.tuple #[.int .i64 r1, .agg #[.int .u64 r2]]) ∧ Below w.heap.size w w' := by
 have hu52 := Try.underlying52
 have HB := Aside0.mk (Below.refl w.heap.size w)
 have H : (if a1 < 1 then (some (0, a0_0)) else (if (IntKind.u64.wrap (a1)) = 0 then (none) else (hinterlandref01_Below.l0 k (IntKind.u64.wrap (a1)) (Int.tmod (IntKind.u64.wrap (((18446744073709551615 : Int) % (IntKind.u64.wrap (a1))) + 1)) (IntKind.u64.wrap (a1))) 1 a0_0))) = some (r1, r2) := h
 clear h
 by_cases c3 : a1 < 1
 ·rw [if_pos c3] at H
  have c3b0 : decide (a1 < 1) = true := decide_eq_true c3
  clear c3
  simp only [Option.some.injEq, Prod.mk.injEq] at H
  obtain ⟨rfl, rfl⟩ := H
  go_enter Try.func29, Try.ntmps29
  try go_wp2_with (first | ((with_reducible refine gate_dst (N := 2) rfl ?_); refine box_event ?hg (N := 2) ?hd (cs := #[.int .u64 a0_0]) (t := 52) ?hr ?_; (case hd => rfl); (case hg => rfl); (case hr => first | (go_simp; done) | (go_simp; rfl)); intro gb302 hg w4 hbox hb; have BK302 := Aside0.mk (hbox); have GW302 := Aside0.mk ((dS_ hg (dL_ HB) : w.heap.size ≤ gb302)); have GE302 := Aside0.mk ((dS_ hg (dL_ HB) : w.heap.size ≤ gb302)); replace HB := Aside0.mk (below_step (dL_ HB) hb); clear hb hbox hg) | ((with_reducible refine gate_dst (N := 5) rfl ?_); refine box_event ?hg (N := 5) ?hd (cs := #[.int .u64 0]) (t := 52) ?hr ?_; (case hd => rfl); (case hg => rfl); (case hr => first | (go_simp; done) | (go_simp; rfl)); intro gb303 hg w5 hbox hb; have BK303 := Aside0.mk (hbox); have GW303 := Aside0.mk ((dS_ hg (dL1_ HB GE302) : w.heap.size ≤ gb303)); have GE303 := Aside0.mk ((dS_ hg (dL1_ HB GE302) : w.heap.size ≤ gb303)); replace HB := Aside0.mk (below_step (dL1_ HB GE302) hb); have NB302_303 := Aside0.mk ((by rw [hg]; exact Nat.ne_of_lt (blk_lt (dB_ BK302)) : gb302 ≠ gb303)); have NB303_302 := Aside0.mk ((by rw [hg]; exact Nat.ne_of_gt (blk_lt (dB_ BK302)) : gb303 ≠ gb302)); replace BK302 := Aside0.mk (blk_below (g := gb302) (o := .cells #[.int .u64 a0_0] 52 (0, 0)) (dB_ BK302) hb); clear hb hbox hg))
  replace BK302 := Aside0.mk (blk_drew BK302.out)
  replace BK303 := Aside0.mk (blk_drew BK303.out)
  replace HB := Aside0.mk (below_drew1 HB.out)
  refine start_ (n := 3) (S := fun w' => w'.cell? ⟨gb302, 0, none⟩ = some (.int .u64 a0_0)) (ds := []) #[false, false, false] (by kernel_rfl) rfl rfl ((blk_cell BK302.out 0).trans rfl) (fun hHeld => ?_)
  generalize w5.drew = w6 at BK302 BK303 HB hHeld ⊢
  refine pure_ (i := 1) (N := some 4) (v := ?_) (a' := ?_) #[false, true, false] rfl rfl (by kernel_rfl) (fun _ _ _ h => h) (Or.inl ⟨by rfl, ?_⟩) ?_ ?_; rotate_left; (intro w'; go_simp; with_reducible rfl); rotate_left; (simp only [Act.put, sI_, s0_, sS_, i64_w, i32_w]; rfl)
  refine take_ (i := 0) (N := some 12) (v := ?_) (a' := ?_) #[true, true, false] rfl rfl (by kernel_rfl) (fun _ _ _ h => h) (Or.inl ⟨by rfl, ?_⟩) hHeld ?_ ?_; rotate_left; (intro w' s0; go_simp; with_reducible rfl); rotate_left; (simp only [Act.put, sI_, s0_, sS_, i64_w, i32_w]; rfl)
  refine one_ (i := 2) (N := none) #[true, true, true] rfl rfl (by kernel_rfl) (by decide) (fun K hK => ?_)
  have hs7 : w6.cell? ⟨gb303, 0, none⟩ = some (.int .u64 0) := (blk_cell BK303.out 0).trans rfl
  have hfs7 := blk_frozen BK303.out 0
  have hns7_0 := NB302_303.out
  have hms7_0 := NB303_302.out
  refine skip_ (w1 := ?_) (by rfl) rfl ?_ ?_
  rotate_left
  ·go_simp
   rfl
  refine hK.out _ _ (((cell_far (p := ⟨gb303, _, none⟩) NB302_303.out _).trans (hHeld))) (fun hHeld => ?_)
  clear hK K
  refine done_ (by kernel_rfl) ?_
  try go_wp2
  refine bodyPost_ret (results_tc rfl _ _ gb303 52 #[.int .u64 a0_0] (0, 0) _ rfl (by (with_reducible repeat (first | refine blk_drewN ?_ _ | refine blk_drew ?_ | refine blk_alloc ?_ _)); refine blk_put (cs := #[.int .u64 0]) ?_ 0 _ rfl; (with_reducible repeat (first | refine blk_drewN ?_ _ | refine blk_drew ?_ | refine blk_alloc ?_ _)); exact BK303.out) Try.underlying52 rfl (by kernel_rfl)) rfl ?_
  exact ⟨tE_, dL2_ HB GE302 GE303⟩
 ·rw [if_neg c3] at H
  have c3b0 : decide (a1 < 1) = false := decide_eq_false c3
  clear c3
  by_cases c8 : (IntKind.u64.wrap (a1)) = 0
  ·rw [if_pos c8] at H
   exact absurd H (by simp)
  ·rw [if_neg c8] at H
   have c8b0 : ((IntKind.u64.wrap (a1)) == 0) = false := beq_eq_false_iff_ne.mpr c8
   have c8b1 : ((IntKind.u64.wrap (a1)) != 0) = true := bne_iff_ne.mpr c8
   have H' := Aside0.mk H
   clear H
   go_enter Try.func29, Try.ntmps29
   go_wp2_with (first | ((with_reducible refine gate_dst (N := 2) rfl ?_); refine box_event ?hg (N := 2) ?hd (cs := #[.int .u64 a0_0]) (t := 52) ?hr ?_; (case hd => rfl); (case hg => rfl); (case hr => first | (go_simp; done) | (go_simp; rfl)); intro gb302 hg w9 hbox hb; have BK302 := Aside0.mk (hbox); have GW302 := Aside0.mk ((dS_ hg (dL_ HB) : w.heap.size ≤ gb302)); have GE302 := Aside0.mk ((dS_ hg (dL_ HB) : w.heap.size ≤ gb302)); replace HB := Aside0.mk (below_step (dL_ HB) hb); clear hb hbox hg) | ((with_reducible refine gate_dst (N := 5) rfl ?_); refine box_event ?hg (N := 5) ?hd (cs := #[.int .u64 0]) (t := 52) ?hr ?_; (case hd => rfl); (case hg => rfl); (case hr => first | (go_simp; done) | (go_simp; rfl)); intro gb303 hg w10 hbox hb; have BK303 := Aside0.mk (hbox); have GW303 := Aside0.mk ((dS_ hg (dL1_ HB GE302) : w.heap.size ≤ gb303)); have GE303 := Aside0.mk ((dS_ hg (dL1_ HB GE302) : w.heap.size ≤ gb303)); replace HB := Aside0.mk (below_step (dL1_ HB GE302) hb); have NB302_303 := Aside0.mk ((by rw [hg]; exact Nat.ne_of_lt (blk_lt (dB_ BK302)) : gb302 ≠ gb303)); have NB303_302 := Aside0.mk ((by rw [hg]; exact Nat.ne_of_gt (blk_lt (dB_ BK302)) : gb303 ≠ gb302)); replace BK302 := Aside0.mk (blk_below (g := gb302) (o := .cells #[.int .u64 a0_0] 52 (0, 0)) (dB_ BK302) hb); clear hb hbox hg))
   go_loopg [8] k (fun kq v8 w' => ∃ (x8_1 : Int) (x304000_1 : Int), v8 = .int .u64 x8_1 ∧ Aside0 (hinterlandref01_Below.l0 kq (IntKind.u64.wrap (a1)) (Int.tmod (IntKind.u64.wrap (((18446744073709551615 : Int) % (IntKind.u64.wrap (a1))) + 1)) (IntKind.u64.wrap (a1))) x8_1 a0_0 = some (r1, r2)) ∧ Aside0 (kq ≤ k) ∧ Aside0 (w'.heap[gb302]? = some (.cells #[.int .u64 a0_0] 52 (0, 0))) ∧ Aside0 (w'.heap[gb303]? = some (.cells #[.int .u64 x304000_1] 52 (0, 0))) ∧ Aside0 (Below w.heap.size w w'))
   case atStart => exact ⟨(1), (0), tS_, H', ⟨Nat.le_refl _⟩, ⟨dB_ BK302⟩, ⟨dB_ BK303⟩, ⟨dL2_ HB GE302 GE303⟩⟩
   case round =>
    clear H'
    try clear c3
    try clear c3b0
    try clear c8
    try clear c8b0
    try clear c8b1
    obtain ⟨x8_1, x304000_1, rfl, HA, HK1, BK302, BK303, HB⟩ := hrel
    cases gk with
    | zero => exact absurd HA.out (by simp [hinterlandref01_Below.l0])
    | succ k1 =>
     have H := HA.out
     clear HA
     simp only [hinterlandref01_Below.l0] at H
     replace H := Option.bind_eq_some_iff.mp H
     obtain ⟨t304, A110, H⟩ := H
     replace H : (if (Int.tmod (IntKind.u64.wrap (((18446744073709551615 : Int) % (IntKind.u64.wrap (a1))) + 1)) (IntKind.u64.wrap (a1))) = 0 then (hinterlandref01_Below.j1 k1 (IntKind.u64.wrap (a1)) (Int.tmod (IntKind.u64.wrap (((18446744073709551615 : Int) % (IntKind.u64.wrap (a1))) + 1)) (IntKind.u64.wrap (a1))) x8_1 t304 true a0_0) else (hinterlandref01_Below.j1 k1 (IntKind.u64.wrap (a1)) (Int.tmod (IntKind.u64.wrap (((18446744073709551615 : Int) % (IntKind.u64.wrap (a1))) + 1)) (IntKind.u64.wrap (a1))) x8_1 t304 (decide (t304 < (IntKind.u64.wrap (-(Int.tmod (IntKind.u64.wrap (((18446744073709551615 : Int) % (IntKind.u64.wrap (a1))) + 1)) (IntKind.u64.wrap (a1))))))) a0_0)) = some (r1, r2) := H
     have A11 := Aside0.mk A110
     clear A110
     have HC12 := Aside0.mk H
     clear H
     have hnb13 := NB302_303.out
     have hnc13 := NB303_302.out
     have hcz14_0 : wr.cell? ⟨gb302, 0, none⟩ = some (.int .u64 a0_0) := (blk_cell BK302.out 0).trans rfl
     have hfz14_0 := blk_frozen BK302.out 0
     go_upto_region 8 with (first | ((with_reducible refine gate_callee (f := 38) rfl ?_); refine goesL_ (some 24) rfl rfl Try.func38 (by kernel_rfl) rfl #[.agg #[.int .u64 a0_0], .int .u64 x8_1] rfl tA_ ?_; (with_reducible refine (hinterlandref01_At.calls a0_0 x8_1 t304 _ A11.out).mono ?_); rintro e w15 ⟨rfl, hb⟩; refine ⟨_, rfl, ?_⟩; replace BK302 := Aside0.mk (blk_below (g := gb302) (o := .cells #[.int .u64 a0_0] 52 (0, 0)) (dB_ BK302) hb); replace BK303 := Aside0.mk (blk_below (g := gb303) (o := .cells #[.int .u64 x304000_1] 52 (0, 0)) (dB_ BK303) hb); replace HB := Aside0.mk (below_step (dL2_ HB GE302 GE303) hb)))
     (try simp only [Act.put, sI_, s0_, sS_])
     go_cut [32] (fun v32 wc => ∃ (kq : Nat) (x32_11 : Bool), v32 = .bool x32_11 ∧ Aside0 (hinterlandref01_Below.j1 kq (IntKind.u64.wrap (a1)) (Int.tmod (IntKind.u64.wrap (((18446744073709551615 : Int) % (IntKind.u64.wrap (a1))) + 1)) (IntKind.u64.wrap (a1))) x8_1 t304 x32_11 a0_0 = some (r1, r2)) ∧ Aside0 (kq ≤ k1) ∧ Aside0 (wc.heap[gb302]? = some (.cells #[.int .u64 a0_0] 52 (0, 0))) ∧ Aside0 (wc.heap[gb303]? = some (.cells #[.int .u64 x304000_1] 52 (0, 0))) ∧ Aside0 (Below w.heap.size w wc))
     case first =>
      have H := HC12.out
      clear HC12
      by_cases c16 : (Int.tmod (IntKind.u64.wrap (((18446744073709551615 : Int) % (IntKind.u64.wrap (a1))) + 1)) (IntKind.u64.wrap (a1))) = 0
      ·rw [if_pos c16] at H
       have c16b0 : ((Int.tmod (IntKind.u64.wrap (((18446744073709551615 : Int) % (IntKind.u64.wrap (a1))) + 1)) (IntKind.u64.wrap (a1))) == 0) = true := beq_iff_eq.mpr c16
       have c16b1 : ((Int.tmod (IntKind.u64.wrap (((18446744073709551615 : Int) % (IntKind.u64.wrap (a1))) + 1)) (IntKind.u64.wrap (a1))) != 0) = false := bne_eq_false_iff_eq.mpr c16
       clear c16
       (first | rw [c16b0] | (simp only [i64_w, i32_w]; rw [c16b0]) | skip)
       have H' := Aside0.mk H
       clear H
       go_wp2
       go_meet
       case rel => exact ⟨_, (true), tS_, H', ⟨by have := HK1.out; first | omega | exact Nat.le_refl _⟩, ⟨dB_ BK302⟩, ⟨dB_ BK303⟩, ⟨dL2_ HB GE302 GE303⟩⟩
      ·rw [if_neg c16] at H
       have c16b0 : ((Int.tmod (IntKind.u64.wrap (((18446744073709551615 : Int) % (IntKind.u64.wrap (a1))) + 1)) (IntKind.u64.wrap (a1))) == 0) = false := beq_eq_false_iff_ne.mpr c16
       have c16b1 : ((Int.tmod (IntKind.u64.wrap (((18446744073709551615 : Int) % (IntKind.u64.wrap (a1))) + 1)) (IntKind.u64.wrap (a1))) != 0) = true := bne_iff_ne.mpr c16
       (first | rw [c16b0] | (simp only [i64_w, i32_w]; rw [c16b0]) | skip)
       have H' := Aside0.mk H
       clear H
       go_wp2
       go_meet
       case rel => exact ⟨_, (decide (t304 < (IntKind.u64.wrap (-(Int.tmod (IntKind.u64.wrap (((18446744073709551615 : Int) % (IntKind.u64.wrap (a1))) + 1)) (IntKind.u64.wrap (a1))))))), tS_, H', ⟨by have := HK1.out; first | omega | exact Nat.le_refl _⟩, ⟨dB_ BK302⟩, ⟨dB_ BK303⟩, ⟨dL2_ HB GE302 GE303⟩⟩
     case rest =>
      clear HC12
      try clear c3
      try clear c3b0
      try clear c8
      try clear c8b0
      try clear c8b1
      try clear c16
      try clear hcz14_0
      try clear hfz14_0
      obtain ⟨kq, x32_11, rfl, HA, HJ11, BK302, BK303, HB⟩ := hcut
      cases kq with
      | zero => exact absurd HA.out (by simp [hinterlandref01_Below.j1])
      | succ kj11 =>
       have H := HA.out
       clear HA
       simp only [hinterlandref01_Below.j1] at H
       by_cases c17 : x32_11 = true
       ·subst c17
        have H1 : (if (IntKind.u64.wrap (a1)) = 0 then (none) else (some (wrap64 (Int.tmod t304 (IntKind.u64.wrap (a1))), IntKind.u64.wrap (a0_0 + (IntKind.u64.wrap (x8_1 * 11400714819323198485)))))) = some (r1, r2) := by rw [if_pos rfl] at H; exact H
        clear H
        have H := H1
        clear H1
        by_cases c18 : (IntKind.u64.wrap (a1)) = 0
        ·rw [if_pos c18] at H
         exact absurd H (by simp)
        ·rw [if_neg c18] at H
         have c18b0 : ((IntKind.u64.wrap (a1)) == 0) = false := beq_eq_false_iff_ne.mpr c18
         have c18b1 : ((IntKind.u64.wrap (a1)) != 0) = true := bne_iff_ne.mpr c18
         simp only [Option.some.injEq, Prod.mk.injEq] at H
         obtain ⟨rfl, rfl⟩ := H
         try go_wp2
         replace BK302 := Aside0.mk (blk_drew BK302.out)
         replace BK303 := Aside0.mk (blk_drew BK303.out)
         replace HB := Aside0.mk (below_drew1 HB.out)
         refine start_ (n := 12) (S := fun w' => w'.cell? ⟨gb302, 0, none⟩ = some (.int .u64 a0_0)) (ds := []) #[false, false, false, false, false, false, false, false, false, false, false, false] (by kernel_rfl) rfl rfl ((blk_cell BK302.out 0).trans rfl) (fun hHeld => ?_); refine with_tabW hinterlandref01_Below.tab9 hinterlandref01_Below.bits9 (fun HT_ HW_ => ?_)
         generalize wc.drew = w19 at BK302 BK303 HB hHeld ⊢
         refine pure_ (i := 0) (N := some 33) (v := ?_) (a' := ?_) (bA 1 12) rfl rfl (any_of HT_.out (by kernel_rfl)) (fun _ _ _ h => h) (Or.inl ⟨by rfl, ?_⟩) ?_ ?_; rotate_left; (intro w'; go_simp; with_reducible rfl); rotate_left; (simp only [Act.put, sI_, s0_, sS_, i64_w, i32_w]; rfl)
         refine pure_ (i := 1) (N := some 34) (v := ?_) (a' := ?_) (bA 2 12) rfl rfl (any_of HT_.out (by kernel_rfl)) (fun _ _ _ h => h) (Or.inl ⟨by rfl, ?_⟩) ?_ ?_; rotate_left; (intro w'; go_simp; with_reducible rfl); rotate_left; (simp only [Act.put, sI_, s0_, sS_, i64_w, i32_w]; rfl)
         refine pure_ (i := 2) (N := some 35) (v := ?_) (a' := ?_) (bA 3 12) rfl rfl (any_of HT_.out (by kernel_rfl)) (fun _ _ _ h => h) (Or.inl ⟨by rfl, ?_⟩) ?_ ?_; rotate_left; (intro w'; go_simp; with_reducible rfl); rotate_left; (simp only [Act.put, sI_, s0_, sS_, i64_w, i32_w]; rfl)
         refine pure_ (i := 3) (N := some 36) (v := ?_) (a' := ?_) (bA 4 12) rfl rfl (any_of HT_.out (by kernel_rfl)) (fun _ _ _ h => h) (Or.inl ⟨by rfl, ?_⟩) ?_ ?_; rotate_left; (intro w'; go_simp; with_reducible rfl); rotate_left; (simp only [Act.put, sI_, s0_, sS_, i64_w, i32_w]; rfl)
         refine pure_ (i := 4) (N := some 37) (v := ?_) (a' := ?_) (bA 5 12) rfl rfl (any_of HT_.out (by kernel_rfl)) (fun _ _ _ h => h) (Or.inl ⟨by rfl, ?_⟩) ?_ ?_; rotate_left; (intro w'; go_simp; with_reducible rfl); rotate_left; (simp only [Act.put, sI_, s0_, sS_, i64_w, i32_w]; rfl)
         refine pure_ (i := 6) (N := some 39) (v := ?_) (a' := ?_) #[true, true, true, true, true, false, true, false, false, false, false, false] rfl rfl (any_of HT_.out (by kernel_rfl)) (fun _ _ _ h => h) (Or.inl ⟨by rfl, ?_⟩) ?_ ?_; rotate_left; (intro w'; go_simp; with_reducible rfl); rotate_left; (simp only [Act.put, sI_, s0_, sS_, i64_w, i32_w]; rfl)
         refine pure_ (i := 7) (N := some 40) (v := ?_) (a' := ?_) #[true, true, true, true, true, false, true, true, false, false, false, false] rfl rfl (any_of HT_.out (by kernel_rfl)) (fun _ _ _ h => h) (Or.inl ⟨by rfl, ?_⟩) ?_ ?_; rotate_left; (intro w'; go_simp; with_reducible rfl); rotate_left; (simp only [Act.put, sI_, s0_, sS_, i64_w, i32_w]; rfl)
         refine pure_ (i := 10) (N := some 4) (v := ?_) (a' := ?_) #[true, true, true, true, true, false, true, true, false, false, true, false] rfl rfl (any_of HT_.out (by kernel_rfl)) (fun _ _ _ h => h) (Or.inl ⟨by rfl, ?_⟩) ?_ ?_; rotate_left; (intro w'; go_simp; with_reducible rfl); rotate_left; (simp only [Act.put, sI_, s0_, sS_, i64_w, i32_w]; rfl)
         refine take_ (i := 5) (N := some 38) (v := ?_) (a' := ?_) #[true, true, true, true, true, true, true, true, false, false, true, false] rfl rfl (take_ofW HT_.out HW_.out (by kernel_rfl)) (fun _ _ _ h => h) (Or.inl ⟨by rfl, ?_⟩) hHeld ?_ ?_; rotate_left; (intro w' s0; go_simp; with_reducible rfl); rotate_left; (simp only [Act.put, sI_, s0_, sS_, i64_w, i32_w]; rfl)
         refine pure_ (i := 8) (N := some 41) (v := ?_) (a' := ?_) #[true, true, true, true, true, true, true, true, true, false, true, false] rfl rfl (any_of HT_.out (by kernel_rfl)) (fun _ _ _ h => h) (Or.inl ⟨by rfl, ?_⟩) ?_ ?_; rotate_left; (intro w'; go_simp; with_reducible rfl); rotate_left; (simp only [Act.put, sI_, s0_, sS_, i64_w, i32_w]; rfl)
         refine pure_ (i := 9) (N := some 42) (v := ?_) (a' := ?_) (bA 11 12) rfl rfl (any_of HT_.out (by kernel_rfl)) (fun _ _ _ h => h) (Or.inl ⟨by rfl, ?_⟩) ?_ ?_; rotate_left; (intro w'; go_simp; with_reducible rfl); rotate_left; (simp only [Act.put, sI_, s0_, sS_, i64_w, i32_w]; rfl)
         refine one_ (i := 11) (N := none) (bA 12 12) rfl rfl (one_of HT_.out (by kernel_rfl)) (by decide) (fun K hK => ?_)
         have hs20 : w19.cell? ⟨gb303, 0, none⟩ = some (.int .u64 x304000_1) := (blk_cell BK303.out 0).trans rfl
         have hfs20 := blk_frozen BK303.out 0
         have hns20_0 := NB302_303.out
         have hms20_0 := NB303_302.out
         refine skip_ (w1 := ?_) (by rfl) rfl ?_ ?_
         rotate_left
         ·go_simp
          rfl
         refine hK.out _ _ (((cell_far (p := ⟨gb303, _, none⟩) NB302_303.out _).trans (hHeld))) (fun hHeld => ?_)
         clear hK K
         refine done_ (done_of HT_.out (by kernel_rfl)) ?_
         try go_wp2
         refine bodyPost_ret (results_tc rfl _ _ gb303 52 #[.int .u64 (IntKind.u64.wrap (a0_0 + (IntKind.u64.wrap (x8_1 * 11400714819323198485))))] (0, 0) _ rfl (by (with_reducible repeat (first | refine blk_drewN ?_ _ | refine blk_drew ?_ | refine blk_alloc ?_ _)); refine blk_put (cs := #[.int .u64 x304000_1]) ?_ 0 _ rfl; (with_reducible repeat (first | refine blk_drewN ?_ _ | refine blk_drew ?_ | refine blk_alloc ?_ _)); exact BK303.out) Try.underlying52 rfl (by kernel_rfl)) rfl ?_
         exact ⟨tE_, dL2_ HB GE302 GE303⟩
       ·replace c17 := Bool.eq_false_iff.mpr c17
        subst c17
        have H1 : (hinterlandref01_Below.l0 kj11 (IntKind.u64.wrap (a1)) (Int.tmod (IntKind.u64.wrap (((18446744073709551615 : Int) % (IntKind.u64.wrap (a1))) + 1)) (IntKind.u64.wrap (a1))) (IntKind.u64.wrap (x8_1 + 1)) a0_0) = some (r1, r2) := by rw [if_neg (show ¬ (false = true) by decide)] at H; exact H
        clear H
        have H := H1
        clear H1
        have H' := Aside0.mk H
        clear H
        go_wp2
        go_roundg kj11
        case measure => have := HK1.out; have := HJ11.out; omega
        case rel => exact ⟨(IntKind.u64.wrap (x8_1 + 1)), (x304000_1), tS_, H', ⟨by have := HK1.out; have := HJ11.out; omega⟩, ⟨dB_ BK302⟩, ⟨dB_ BK303⟩, ⟨dL2_ HB GE302 GE303⟩⟩

end Go.Proofs.Ytchflcnegpnkkab.Q
