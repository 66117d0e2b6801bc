-- PRINTED by print.py out of the translation. Not trusted: Lean checks it.
import Derived.Test.YtgnahbjpockdmabPrs
import Derived.Test.YtgnahbjpockdmabQ0
import Derived.Test.YtgnahbjpockdmabQ43
import Derived.Test.YtgnahbjpockdmabQ21
import Derived.Test.YtgnahbjpockdmabQ22
namespace Go.Proofs.Ytgnahbjpockdmab.Q
open Go.RowKit Go.Proofs.YtgnahbjpockdmabPrs Go.Proofs.YtgnahbjpockdmabOwn Go.Proofs.YtgnahbjpockdmabW.PrintWords Go.Proofs.YtgnahbjpockdmabW.PrintLast Go.Proofs.YtgnahbjpockdmabW.PrintMore
open List renaming setIfInBounds_toArray → sI_, set_cons_zero → s0_, set_cons_succ → sS_
attribute [local go_sem] max2_int min2_int max_two min_two max_three min_three max_four min_four   -- for this text's walks alone
set_option linter.unusedVariables false
set_option linter.unusedSimpArgs false

/-! ### hinterlandref01_Below: function 43 -/
mutual
def hinterlandref01_Below.l0 : Nat → Int → Int → Int → Int → Option (Int × Int)
  | 0, _, _, _, _ => none
  | k + 1, x6, x7, x8, x470000 => (hinterlandref01_At.f x470000 x8).bind fun t471 => (if x7 = 0 then (hinterlandref01_Below.j1 k x6 x7 x8 t471 true x470000) else (hinterlandref01_Below.j1 k x6 x7 x8 t471 (decide (t471 < (IntKind.u64.wrap (-x7)))) x470000))
def hinterlandref01_Below.j1 : Nat → Int → Int → Int → Int → Bool → Int → Option (Int × Int)
  | 0, _, _, _, _, _, _ => none
  | k + 1, x6, x7, x8, x9, x32, x470000 => if x32 = true then (if x6 = 0 then (none) else (some (wrap64 (Int.tmod x9 x6), IntKind.u64.wrap (x470000 + (IntKind.u64.wrap (x8 * 11400714819323198485)))))) else (hinterlandref01_Below.l0 k x6 x7 (IntKind.u64.wrap (x8 + 1)) x470000)
end
def hinterlandref01_Below.f (k : Nat) (a0_0 : Int) (a1 : Int) : Option (Int × Int) := if a1 < 1 then (some (0, a0_0)) else (if (IntKind.u64.wrap (a1)) = 0 then (none) else (hinterlandref01_Below.l0 k (IntKind.u64.wrap (a1)) (Int.tmod (IntKind.u64.wrap (((18446744073709551615 : Int) % (IntKind.u64.wrap (a1))) + 1)) (IntKind.u64.wrap (a1))) 1 a0_0))
theorem hinterlandref01_Below.mono_l : ∀ k, (∀ y0 y1 y2 y3, LeO (hinterlandref01_Below.l0 k y0 y1 y2 y3) (hinterlandref01_Below.l0 (k + 1) y0 y1 y2 y3)) ∧ (∀ y0 y1 y2 y3 y4 y5, LeO (hinterlandref01_Below.j1 k y0 y1 y2 y3 y4 y5) (hinterlandref01_Below.j1 (k + 1) y0 y1 y2 y3 y4 y5))
  | 0 => ⟨fun _ _ _ _ r h => by simp [hinterlandref01_Below.l0] at h, fun _ _ _ _ _ _ r h => by simp [hinterlandref01_Below.j1] at h⟩
  | k + 1 => by
    obtain ⟨ih0, ih1⟩ := hinterlandref01_Below.mono_l k
    refine ⟨?_, ?_⟩
    · intro y0 y1 y2 y3
      unfold hinterlandref01_Below.l0
      repeat' first
      | (with_reducible first | exact ih0 _ _ _ _ | exact ih1 _ _ _ _ _ _ | exact LeO.refl _ | exact LeO.none _ | refine LeO.ite ?_ ?_ | refine LeO.bind ?_ (fun _ => ?_))
      | exact ih0 _ _ _ _
      | exact ih1 _ _ _ _ _ _
      | exact LeO.none _
      | refine LeO.ite ?_ ?_
      | refine LeO.bind ?_ (fun _ => ?_)
    · intro y0 y1 y2 y3 y4 y5
      unfold hinterlandref01_Below.j1
      repeat' first
      | (with_reducible first | exact ih0 _ _ _ _ | exact ih1 _ _ _ _ _ _ | exact LeO.refl _ | exact LeO.none _ | refine LeO.ite ?_ ?_ | refine LeO.bind ?_ (fun _ => ?_))
      | exact ih0 _ _ _ _
      | exact ih1 _ _ _ _ _ _
      | exact LeO.none _
      | refine LeO.ite ?_ ?_
      | refine LeO.bind ?_ (fun _ => ?_)
theorem hinterlandref01_Below.mono : ∀ a0 a1 k, LeO (hinterlandref01_Below.f k a0 a1) (hinterlandref01_Below.f (k + 1) a0 a1) := by
  intro a0 a1 k
  obtain ⟨ih0, ih1⟩ := hinterlandref01_Below.mono_l k
  unfold hinterlandref01_Below.f
  repeat' first
      | (with_reducible first | exact ih0 _ _ _ _ | exact ih1 _ _ _ _ _ _ | exact LeO.refl _ | exact LeO.none _ | refine LeO.ite ?_ ?_ | refine LeO.bind ?_ (fun _ => ?_))
      | exact ih0 _ _ _ _
      | exact ih1 _ _ _ _ _ _
      | exact LeO.none _
      | refine LeO.ite ?_ ?_
      | refine LeO.bind ?_ (fun _ => ?_)
def hinterlandref01_Below.T9 : Bool × List (List Nat × List Nat) := (true, [([], []), ([], []), ([0, 1], [0, 1]), ([2], [2]), ([], []), ([4], [4]), ([], []), ([6], [6]), ([5, 7], [5, 7]), ([8], [8]), ([3, 0, 1, 2, 3], [3]), ([9, 10, 0, 1, 2, 3, 4, 5, 6, 7, 8, 9, 10], [9])])
def hinterlandref01_Below.B9 : List Nat := [0, 0, 3, 7, 0, 16, 0, 64, 240, 496, 15, 2047]
theorem hinterlandref01_Below.tab9 : rtab .any (opsOf Try.f43 9) = hinterlandref01_Below.T9 := by kernel_rfl
theorem hinterlandref01_Below.bits9 : waitsOk hinterlandref01_Below.T9.2 hinterlandref01_Below.B9 = true := by kernel_rfl
set_option maxHeartbeats 8000000 in
set_option maxRecDepth 100000 in
theorem hinterlandref01_Below.calls (k : Nat) (a0_0 : Int) (a1 : Int) (r1 : Int) (r2 : Int) (w : World) (h : hinterlandref01_Below.f k a0_0 a1 = some (r1, r2)) :
    Calls Try.prog 43 #[.agg #[.int .u64 a0_0], .int .i64 a1] w fun e w' => e = .returned (.tuple #[.int .i64 r1, .agg #[.int .u64 r2]]) ∧ Below w.heap.size w w' := by
 have hu37 := Try.underlying37
 have HB := Aside0.mk (Below.refl w.heap.size w)
 have H : (if a1 < 1 then (some (0, a0_0)) else (if (IntKind.u64.wrap (a1)) = 0 then (none) else (hinterlandref01_Below.l0 k (IntKind.u64.wrap (a1)) (Int.tmod (IntKind.u64.wrap (((18446744073709551615 : Int) % (IntKind.u64.wrap (a1))) + 1)) (IntKind.u64.wrap (a1))) 1 a0_0))) = some (r1, r2) := h
 clear h
 by_cases c3 : a1 < 1
 ·rw [if_pos c3] at H
  have c3b0 : decide (a1 < 1) = true := decide_eq_true c3
  clear c3
  simp only [Option.some.injEq, Prod.mk.injEq] at H
  obtain ⟨rfl, rfl⟩ := H
  go_enter Try.func43, Try.ntmps43
  try go_wp2_with (first | ((with_reducible refine gate_dst (N := 2) rfl ?_); refine box_event ?hg (N := 2) ?hd (cs := #[.int .u64 a0_0]) (t := 37) ?hr ?_; (case hd => rfl); (case hg => rfl); (case hr => first | (go_simp; done) | (go_simp; rfl)); intro gb469 hg w4 hbox hb; have BK469 := Aside0.mk (hbox); have GW469 := Aside0.mk ((dS_ hg (dL_ HB) : w.heap.size ≤ gb469)); have GE469 := Aside0.mk ((dS_ hg (dL_ HB) : w.heap.size ≤ gb469)); replace HB := Aside0.mk (below_step (dL_ HB) hb); clear hb hbox hg) | ((with_reducible refine gate_dst (N := 5) rfl ?_); refine box_event ?hg (N := 5) ?hd (cs := #[.int .u64 0]) (t := 37) ?hr ?_; (case hd => rfl); (case hg => rfl); (case hr => first | (go_simp; done) | (go_simp; rfl)); intro gb470 hg w5 hbox hb; have BK470 := Aside0.mk (hbox); have GW470 := Aside0.mk ((dS_ hg (dL1_ HB GE469) : w.heap.size ≤ gb470)); have GE470 := Aside0.mk ((dS_ hg (dL1_ HB GE469) : w.heap.size ≤ gb470)); replace HB := Aside0.mk (below_step (dL1_ HB GE469) hb); have NB469_470 := Aside0.mk ((by rw [hg]; exact Nat.ne_of_lt (blk_lt (dB_ BK469)) : gb469 ≠ gb470)); have NB470_469 := Aside0.mk ((by rw [hg]; exact Nat.ne_of_gt (blk_lt (dB_ BK469)) : gb470 ≠ gb469)); replace BK469 := Aside0.mk (blk_below (g := gb469) (o := .cells #[.int .u64 a0_0] 37 (0, 0)) (dB_ BK469) hb); clear hb hbox hg))
  replace BK469 := Aside0.mk (blk_drew BK469.out)
  replace BK470 := Aside0.mk (blk_drew BK470.out)
  replace HB := Aside0.mk (below_drew1 HB.out)
  refine start_ (n := 3) (S := fun w' => w'.cell? ⟨gb469, 0, none⟩ = some (.int .u64 a0_0)) (ds := []) #[false, false, false] (by kernel_rfl) rfl rfl ((blk_cell BK469.out 0).trans rfl) (fun hHeld => ?_)
  generalize w5.drew = w6 at BK469 BK470 HB hHeld ⊢
  refine pure_ (i := 1) (N := some 4) (v := ?_) (a' := ?_) #[false, true, false] rfl rfl (by kernel_rfl) (fun _ _ _ h => h) (Or.inl ⟨by rfl, ?_⟩) ?_ ?_
  rotate_left
  ·intro w'
   go_simp
   with_reducible rfl
  rotate_left
  ·simp only [Act.put, sI_, s0_, sS_, i64_w, i32_w]
   rfl
  refine take_ (i := 0) (N := some 12) (v := ?_) (a' := ?_) #[true, true, false] rfl rfl (by kernel_rfl) (fun _ _ _ h => h) (Or.inl ⟨by rfl, ?_⟩) hHeld ?_ ?_
  rotate_left
  ·intro w' s0
   go_simp
   with_reducible rfl
  rotate_left
  ·simp only [Act.put, sI_, s0_, sS_, i64_w, i32_w]
   rfl
  refine one_ (i := 2) (N := none) #[true, true, true] rfl rfl (by kernel_rfl) (by decide) (fun K hK => ?_)
  have hs7 : w6.cell? ⟨gb470, 0, none⟩ = some (.int .u64 0) := (blk_cell BK470.out 0).trans rfl
  have hfs7 := blk_frozen BK470.out 0
  have hns7_0 := NB469_470.out
  have hms7_0 := NB470_469.out
  refine skip_ (w1 := ?_) (by rfl) rfl ?_ ?_
  rotate_left
  ·go_simp
   rfl
  refine hK.out _ _ (((cell_far (p := ⟨gb470, _, none⟩) NB469_470.out _).trans (hHeld))) (fun hHeld => ?_)
  clear hK K
  refine done_ (by kernel_rfl) ?_
  try go_wp2
  refine bodyPost_ret (results_tc rfl _ _ gb470 37 #[.int .u64 a0_0] (0, 0) _ rfl (by (with_reducible repeat (first | refine blk_drewN ?_ _ | refine blk_drew ?_ | refine blk_alloc ?_ _)); refine blk_put (cs := #[.int .u64 0]) ?_ 0 _ rfl; (with_reducible repeat (first | refine blk_drewN ?_ _ | refine blk_drew ?_ | refine blk_alloc ?_ _)); exact BK470.out) Try.underlying37 rfl (by kernel_rfl)) rfl ?_
  exact ⟨tE_, dL2_ HB GE469 GE470⟩
 ·rw [if_neg c3] at H
  have c3b0 : decide (a1 < 1) = false := decide_eq_false c3
  clear c3
  by_cases c8 : (IntKind.u64.wrap (a1)) = 0
  ·rw [if_pos c8] at H
   exact absurd H (by simp)
  ·rw [if_neg c8] at H
   have c8b0 : ((IntKind.u64.wrap (a1)) == 0) = false := beq_eq_false_iff_ne.mpr c8
   have c8b1 : ((IntKind.u64.wrap (a1)) != 0) = true := bne_iff_ne.mpr c8
   have H' := Aside0.mk H
   clear H
   go_enter Try.func43, Try.ntmps43
   go_wp2_with (first | ((with_reducible refine gate_dst (N := 2) rfl ?_); refine box_event ?hg (N := 2) ?hd (cs := #[.int .u64 a0_0]) (t := 37) ?hr ?_; (case hd => rfl); (case hg => rfl); (case hr => first | (go_simp; done) | (go_simp; rfl)); intro gb469 hg w9 hbox hb; have BK469 := Aside0.mk (hbox); have GW469 := Aside0.mk ((dS_ hg (dL_ HB) : w.heap.size ≤ gb469)); have GE469 := Aside0.mk ((dS_ hg (dL_ HB) : w.heap.size ≤ gb469)); replace HB := Aside0.mk (below_step (dL_ HB) hb); clear hb hbox hg) | ((with_reducible refine gate_dst (N := 5) rfl ?_); refine box_event ?hg (N := 5) ?hd (cs := #[.int .u64 0]) (t := 37) ?hr ?_; (case hd => rfl); (case hg => rfl); (case hr => first | (go_simp; done) | (go_simp; rfl)); intro gb470 hg w10 hbox hb; have BK470 := Aside0.mk (hbox); have GW470 := Aside0.mk ((dS_ hg (dL1_ HB GE469) : w.heap.size ≤ gb470)); have GE470 := Aside0.mk ((dS_ hg (dL1_ HB GE469) : w.heap.size ≤ gb470)); replace HB := Aside0.mk (below_step (dL1_ HB GE469) hb); have NB469_470 := Aside0.mk ((by rw [hg]; exact Nat.ne_of_lt (blk_lt (dB_ BK469)) : gb469 ≠ gb470)); have NB470_469 := Aside0.mk ((by rw [hg]; exact Nat.ne_of_gt (blk_lt (dB_ BK469)) : gb470 ≠ gb469)); replace BK469 := Aside0.mk (blk_below (g := gb469) (o := .cells #[.int .u64 a0_0] 37 (0, 0)) (dB_ BK469) hb); clear hb hbox hg))
   go_loopg [8] k (fun kq v8 w' => ∃ (x8_1 : Int) (x471000_1 : Int), v8 = .int .u64 x8_1 ∧ Aside0 (hinterlandref01_Below.l0 kq (IntKind.u64.wrap (a1)) (Int.tmod (IntKind.u64.wrap (((18446744073709551615 : Int) % (IntKind.u64.wrap (a1))) + 1)) (IntKind.u64.wrap (a1))) x8_1 a0_0 = some (r1, r2)) ∧ Aside0 (kq ≤ k) ∧ Aside0 (w'.heap[gb469]? = some (.cells #[.int .u64 a0_0] 37 (0, 0))) ∧ Aside0 (w'.heap[gb470]? = some (.cells #[.int .u64 x471000_1] 37 (0, 0))) ∧ Aside0 (Below w.heap.size w w'))
   case atStart => exact ⟨(1), (0), tS_, H', ⟨Nat.le_refl _⟩, ⟨dB_ BK469⟩, ⟨dB_ BK470⟩, ⟨dL2_ HB GE469 GE470⟩⟩
   case round =>
    clear H'
    try clear c3
    try clear c3b0
    try clear c8
    try clear c8b0
    try clear c8b1
    obtain ⟨x8_1, x471000_1, rfl, HA, HK1, BK469, BK470, HB⟩ := hrel
    cases gk with
    | zero => exact absurd HA.out (by simp [hinterlandref01_Below.l0])
    | succ k1 =>
     have H := HA.out
     clear HA
     simp only [hinterlandref01_Below.l0] at H
     replace H := Option.bind_eq_some_iff.mp H
     obtain ⟨t471, A110, H⟩ := H
     replace H : (if (Int.tmod (IntKind.u64.wrap (((18446744073709551615 : Int) % (IntKind.u64.wrap (a1))) + 1)) (IntKind.u64.wrap (a1))) = 0 then (hinterlandref01_Below.j1 k1 (IntKind.u64.wrap (a1)) (Int.tmod (IntKind.u64.wrap (((18446744073709551615 : Int) % (IntKind.u64.wrap (a1))) + 1)) (IntKind.u64.wrap (a1))) x8_1 t471 true a0_0) else (hinterlandref01_Below.j1 k1 (IntKind.u64.wrap (a1)) (Int.tmod (IntKind.u64.wrap (((18446744073709551615 : Int) % (IntKind.u64.wrap (a1))) + 1)) (IntKind.u64.wrap (a1))) x8_1 t471 (decide (t471 < (IntKind.u64.wrap (-(Int.tmod (IntKind.u64.wrap (((18446744073709551615 : Int) % (IntKind.u64.wrap (a1))) + 1)) (IntKind.u64.wrap (a1))))))) a0_0)) = some (r1, r2) := H
     have A11 := Aside0.mk A110
     clear A110
     have HC12 := Aside0.mk H
     clear H
     have hnb13 := NB469_470.out
     have hnc13 := NB470_469.out
     have hcz14_0 : wr.cell? ⟨gb469, 0, none⟩ = some (.int .u64 a0_0) := (blk_cell BK469.out 0).trans rfl
     have hfz14_0 := blk_frozen BK469.out 0
     go_upto_region 8 with (first | ((with_reducible refine gate_callee (f := 52) rfl ?_); refine goesL_ (some 24) rfl rfl Try.func52 (by kernel_rfl) rfl #[.agg #[.int .u64 a0_0], .int .u64 x8_1] rfl tA_ ?_; (with_reducible refine (hinterlandref01_At.calls a0_0 x8_1 t471 _ A11.out).mono ?_); rintro e w15 ⟨rfl, hb⟩; refine ⟨_, rfl, ?_⟩; replace BK469 := Aside0.mk (blk_below (g := gb469) (o := .cells #[.int .u64 a0_0] 37 (0, 0)) (dB_ BK469) hb); replace BK470 := Aside0.mk (blk_below (g := gb470) (o := .cells #[.int .u64 x471000_1] 37 (0, 0)) (dB_ BK470) hb); replace HB := Aside0.mk (below_step (dL2_ HB GE469 GE470) hb)))
     (try simp only [Act.put, sI_, s0_, sS_])
     go_cut [32] (fun v32 wc => ∃ (kq : Nat) (x32_11 : Bool), v32 = .bool x32_11 ∧ Aside0 (hinterlandref01_Below.j1 kq (IntKind.u64.wrap (a1)) (Int.tmod (IntKind.u64.wrap (((18446744073709551615 : Int) % (IntKind.u64.wrap (a1))) + 1)) (IntKind.u64.wrap (a1))) x8_1 t471 x32_11 a0_0 = some (r1, r2)) ∧ Aside0 (kq ≤ k1) ∧ Aside0 (wc.heap[gb469]? = some (.cells #[.int .u64 a0_0] 37 (0, 0))) ∧ Aside0 (wc.heap[gb470]? = some (.cells #[.int .u64 x471000_1] 37 (0, 0))) ∧ Aside0 (Below w.heap.size w wc))
     case first =>
      have H := HC12.out
      clear HC12
      by_cases c16 : (Int.tmod (IntKind.u64.wrap (((18446744073709551615 : Int) % (IntKind.u64.wrap (a1))) + 1)) (IntKind.u64.wrap (a1))) = 0
      ·rw [if_pos c16] at H
       have c16b0 : ((Int.tmod (IntKind.u64.wrap (((18446744073709551615 : Int) % (IntKind.u64.wrap (a1))) + 1)) (IntKind.u64.wrap (a1))) == 0) = true := beq_iff_eq.mpr c16
       have c16b1 : ((Int.tmod (IntKind.u64.wrap (((18446744073709551615 : Int) % (IntKind.u64.wrap (a1))) + 1)) (IntKind.u64.wrap (a1))) != 0) = false := bne_eq_false_iff_eq.mpr c16
       clear c16
       (first | rw [c16b0] | (simp only [i64_w, i32_w]; rw [c16b0]) | skip)
       have H' := Aside0.mk H
       clear H
       go_wp2
       go_meet
       case rel => exact ⟨_, (true), tS_, H', ⟨by have := HK1.out; first | omega | exact Nat.le_refl _⟩, ⟨dB_ BK469⟩, ⟨dB_ BK470⟩, ⟨dL2_ HB GE469 GE470⟩⟩
      ·rw [if_neg c16] at H
       have c16b0 : ((Int.tmod (IntKind.u64.wrap (((18446744073709551615 : Int) % (IntKind.u64.wrap (a1))) + 1)) (IntKind.u64.wrap (a1))) == 0) = false := beq_eq_false_iff_ne.mpr c16
       have c16b1 : ((Int.tmod (IntKind.u64.wrap (((18446744073709551615 : Int) % (IntKind.u64.wrap (a1))) + 1)) (IntKind.u64.wrap (a1))) != 0) = true := bne_iff_ne.mpr c16
       (first | rw [c16b0] | (simp only [i64_w, i32_w]; rw [c16b0]) | skip)
       have H' := Aside0.mk H
       clear H
       go_wp2
       go_meet
       case rel => exact ⟨_, (decide (t471 < (IntKind.u64.wrap (-(Int.tmod (IntKind.u64.wrap (((18446744073709551615 : Int) % (IntKind.u64.wrap (a1))) + 1)) (IntKind.u64.wrap (a1))))))), tS_, H', ⟨by have := HK1.out; first | omega | exact Nat.le_refl _⟩, ⟨dB_ BK469⟩, ⟨dB_ BK470⟩, ⟨dL2_ HB GE469 GE470⟩⟩
     case rest =>
      clear HC12
      try clear c3
      try clear c3b0
      try clear c8
      try clear c8b0
      try clear c8b1
      try clear c16
      try clear hcz14_0
      try clear hfz14_0
      obtain ⟨kq, x32_11, rfl, HA, HJ11, BK469, BK470, HB⟩ := hcut
      cases kq with
      | zero => exact absurd HA.out (by simp [hinterlandref01_Below.j1])
      | succ kj11 =>
       have H := HA.out
       clear HA
       simp only [hinterlandref01_Below.j1] at H
       by_cases c17 : x32_11 = true
       ·subst c17
        have H1 : (if (IntKind.u64.wrap (a1)) = 0 then (none) else (some (wrap64 (Int.tmod t471 (IntKind.u64.wrap (a1))), IntKind.u64.wrap (a0_0 + (IntKind.u64.wrap (x8_1 * 11400714819323198485)))))) = some (r1, r2) := by rw [if_pos rfl] at H; exact H
        clear H
        have H := H1
        clear H1
        by_cases c18 : (IntKind.u64.wrap (a1)) = 0
        ·rw [if_pos c18] at H
         exact absurd H (by simp)
        ·rw [if_neg c18] at H
         have c18b0 : ((IntKind.u64.wrap (a1)) == 0) = false := beq_eq_false_iff_ne.mpr c18
         have c18b1 : ((IntKind.u64.wrap (a1)) != 0) = true := bne_iff_ne.mpr c18
         simp only [Option.some.injEq, Prod.mk.injEq] at H
         obtain ⟨rfl, rfl⟩ := H
         try go_wp2
         replace BK469 := Aside0.mk (blk_drew BK469.out)
         replace BK470 := Aside0.mk (blk_drew BK470.out)
         replace HB := Aside0.mk (below_drew1 HB.out)
         refine start_ (n := 12) (S := fun w' => w'.cell? ⟨gb469, 0, none⟩ = some (.int .u64 a0_0)) (ds := []) #[false, false, false, false, false, false, false, false, false, false, false, false] (by kernel_rfl) rfl rfl ((blk_cell BK469.out 0).trans rfl) (fun hHeld => ?_); refine with_tabW hinterlandref01_Below.tab9 hinterlandref01_Below.bits9 (fun HT_ HW_ => ?_)
         generalize wc.drew = w19 at BK469 BK470 HB hHeld ⊢
         refine pure_ (i := 0) (N := some 33) (v := ?_) (a' := ?_) #[true, false, false, false, false, false, false, false, false, false, false, false] rfl rfl (any_of HT_.out (by kernel_rfl)) (fun _ _ _ h => h) (Or.inl ⟨by rfl, ?_⟩) ?_ ?_
         rotate_left
         ·intro w'
          go_simp
          with_reducible rfl
         rotate_left
         ·simp only [Act.put, sI_, s0_, sS_, i64_w, i32_w]
          rfl
         refine pure_ (i := 1) (N := some 34) (v := ?_) (a' := ?_) #[true, true, false, false, false, false, false, false, false, false, false, false] rfl rfl (any_of HT_.out (by kernel_rfl)) (fun _ _ _ h => h) (Or.inl ⟨by rfl, ?_⟩) ?_ ?_
         rotate_left
         ·intro w'
          go_simp
          with_reducible rfl
         rotate_left
         ·simp only [Act.put, sI_, s0_, sS_, i64_w, i32_w]
          rfl
         refine pure_ (i := 2) (N := some 35) (v := ?_) (a' := ?_) #[true, true, true, false, false, false, false, false, false, false, false, false] rfl rfl (any_of HT_.out (by kernel_rfl)) (fun _ _ _ h => h) (Or.inl ⟨by rfl, ?_⟩) ?_ ?_
         rotate_left
         ·intro w'
          go_simp
          with_reducible rfl
         rotate_left
         ·simp only [Act.put, sI_, s0_, sS_, i64_w, i32_w]
          rfl
         refine pure_ (i := 3) (N := some 36) (v := ?_) (a' := ?_) #[true, true, true, true, false, false, false, false, false, false, false, false] rfl rfl (any_of HT_.out (by kernel_rfl)) (fun _ _ _ h => h) (Or.inl ⟨by rfl, ?_⟩) ?_ ?_
         rotate_left
         ·intro w'
          go_simp
          with_reducible rfl
         rotate_left
         ·simp only [Act.put, sI_, s0_, sS_, i64_w, i32_w]
          rfl
         refine pure_ (i := 4) (N := some 37) (v := ?_) (a' := ?_) #[true, true, true, true, true, false, false, false, false, false, false, false] rfl rfl (any_of HT_.out (by kernel_rfl)) (fun _ _ _ h => h) (Or.inl ⟨by rfl, ?_⟩) ?_ ?_
         rotate_left
         ·intro w'
          go_simp
          with_reducible rfl
         rotate_left
         ·simp only [Act.put, sI_, s0_, sS_, i64_w, i32_w]
          rfl
         refine pure_ (i := 6) (N := some 39) (v := ?_) (a' := ?_) #[true, true, true, true, true, false, true, false, false, false, false, false] rfl rfl (any_of HT_.out (by kernel_rfl)) (fun _ _ _ h => h) (Or.inl ⟨by rfl, ?_⟩) ?_ ?_
         rotate_left
         ·intro w'
          go_simp
          with_reducible rfl
         rotate_left
         ·simp only [Act.put, sI_, s0_, sS_, i64_w, i32_w]
          rfl
         refine pure_ (i := 7) (N := some 40) (v := ?_) (a' := ?_) #[true, true, true, true, true, false, true, true, false, false, false, false] rfl rfl (any_of HT_.out (by kernel_rfl)) (fun _ _ _ h => h) (Or.inl ⟨by rfl, ?_⟩) ?_ ?_
         rotate_left
         ·intro w'
          go_simp
          with_reducible rfl
         rotate_left
         ·simp only [Act.put, sI_, s0_, sS_, i64_w, i32_w]
          rfl
         refine pure_ (i := 10) (N := some 4) (v := ?_) (a' := ?_) #[true, true, true, true, true, false, true, true, false, false, true, false] rfl rfl (any_of HT_.out (by kernel_rfl)) (fun _ _ _ h => h) (Or.inl ⟨by rfl, ?_⟩) ?_ ?_
         rotate_left
         ·intro w'
          go_simp
          with_reducible rfl
         rotate_left
         ·simp only [Act.put, sI_, s0_, sS_, i64_w, i32_w]
          rfl
         refine take_ (i := 5) (N := some 38) (v := ?_) (a' := ?_) #[true, true, true, true, true, true, true, true, false, false, true, false] rfl rfl (take_ofW HT_.out HW_.out (by kernel_rfl)) (fun _ _ _ h => h) (Or.inl ⟨by rfl, ?_⟩) hHeld ?_ ?_
         rotate_left
         ·intro w' s0
          go_simp
          with_reducible rfl
         rotate_left
         ·simp only [Act.put, sI_, s0_, sS_, i64_w, i32_w]
          rfl
         refine pure_ (i := 8) (N := some 41) (v := ?_) (a' := ?_) #[true, true, true, true, true, true, true, true, true, false, true, false] rfl rfl (any_of HT_.out (by kernel_rfl)) (fun _ _ _ h => h) (Or.inl ⟨by rfl, ?_⟩) ?_ ?_
         rotate_left
         ·intro w'
          go_simp
          with_reducible rfl
         rotate_left
         ·simp only [Act.put, sI_, s0_, sS_, i64_w, i32_w]
          rfl
         refine pure_ (i := 9) (N := some 42) (v := ?_) (a' := ?_) #[true, true, true, true, true, true, true, true, true, true, true, false] rfl rfl (any_of HT_.out (by kernel_rfl)) (fun _ _ _ h => h) (Or.inl ⟨by rfl, ?_⟩) ?_ ?_
         rotate_left
         ·intro w'
          go_simp
          with_reducible rfl
         rotate_left
         ·simp only [Act.put, sI_, s0_, sS_, i64_w, i32_w]
          rfl
         refine one_ (i := 11) (N := none) #[true, true, true, true, true, true, true, true, true, true, true, true] rfl rfl (one_of HT_.out (by kernel_rfl)) (by decide) (fun K hK => ?_)
         have hs20 : w19.cell? ⟨gb470, 0, none⟩ = some (.int .u64 x471000_1) := (blk_cell BK470.out 0).trans rfl
         have hfs20 := blk_frozen BK470.out 0
         have hns20_0 := NB469_470.out
         have hms20_0 := NB470_469.out
         refine skip_ (w1 := ?_) (by rfl) rfl ?_ ?_
         rotate_left
         ·go_simp
          rfl
         refine hK.out _ _ (((cell_far (p := ⟨gb470, _, none⟩) NB469_470.out _).trans (hHeld))) (fun hHeld => ?_)
         clear hK K
         refine done_ (done_of HT_.out (by kernel_rfl)) ?_
         try go_wp2
         refine bodyPost_ret (results_tc rfl _ _ gb470 37 #[.int .u64 (IntKind.u64.wrap (a0_0 + (IntKind.u64.wrap (x8_1 * 11400714819323198485))))] (0, 0) _ rfl (by (with_reducible repeat (first | refine blk_drewN ?_ _ | refine blk_drew ?_ | refine blk_alloc ?_ _)); refine blk_put (cs := #[.int .u64 x471000_1]) ?_ 0 _ rfl; (with_reducible repeat (first | refine blk_drewN ?_ _ | refine blk_drew ?_ | refine blk_alloc ?_ _)); exact BK470.out) Try.underlying37 rfl (by kernel_rfl)) rfl ?_
         exact ⟨tE_, dL2_ HB GE469 GE470⟩
       ·replace c17 := Bool.eq_false_iff.mpr c17
        subst c17
        have H1 : (hinterlandref01_Below.l0 kj11 (IntKind.u64.wrap (a1)) (Int.tmod (IntKind.u64.wrap (((18446744073709551615 : Int) % (IntKind.u64.wrap (a1))) + 1)) (IntKind.u64.wrap (a1))) (IntKind.u64.wrap (x8_1 + 1)) a0_0) = some (r1, r2) := by rw [if_neg (show ¬ (false = true) by decide)] at H; exact H
        clear H
        have H := H1
        clear H1
        have H' := Aside0.mk H
        clear H
        go_wp2
        go_roundg kj11
        case measure => have := HK1.out; have := HJ11.out; omega
        case rel => exact ⟨(IntKind.u64.wrap (x8_1 + 1)), (x471000_1), tS_, H', ⟨by have := HK1.out; have := HJ11.out; omega⟩, ⟨dB_ BK469⟩, ⟨dB_ BK470⟩, ⟨dL2_ HB GE469 GE470⟩⟩

end Go.Proofs.Ytgnahbjpockdmab.Q
namespace Go.Proofs.Ytgnahbjpockdmab.Q
open Go.RowKit Go.Proofs.YtgnahbjpockdmabPrs Go.Proofs.YtgnahbjpockdmabOwn Go.Proofs.YtgnahbjpockdmabW.PrintWords Go.Proofs.YtgnahbjpockdmabW.PrintLast Go.Proofs.YtgnahbjpockdmabW.PrintMore
open List renaming setIfInBounds_toArray → sI_, set_cons_zero → s0_, set_cons_succ → sS_
attribute [local go_sem] max2_int min2_int max_two min_two max_three min_three max_four min_four   -- for this text's walks alone
set_option linter.unusedVariables false
set_option linter.unusedSimpArgs false

/-! ### fleet_Worth: function 15 -/
def fleet_Worth.l0 : Nat → List (S52) → Int → List Int → Int → Int → List Int → List Int → Int → Int → Int → Int → List (S49) → Option (Int × Int)
  | 0, _, _, _, _, _, _, _, _, _, _, _, _ => none
  | k + 1, x0, x7, x17, x18, x19, x545000, x545001, x545002, x545003, x545004, x545005, x545006 => if x19 < x18 then (if 0 ≤ x19 then (if x19 < (x17.length : Int) then (if 0 ≤ (rd x17 x19) then (if (rd x17 x19) < (x0.length : Int) then ((fleet_worth.f ((rd_T52 x0 (rd x17 x19)).f0) ((rd_T52 x0 (rd x17 x19)).f1) ((rd_T52 x0 (rd x17 x19)).f2) ((rd_T52 x0 (rd x17 x19)).f3) ((rd_T52 x0 (rd x17 x19)).f4) ((rd_T52 x0 (rd x17 x19)).f5) ((rd_T52 x0 (rd x17 x19)).f6) ((rd_T52 x0 (rd x17 x19)).f7) ((rd_T52 x0 (rd x17 x19)).f8) ((rd_T52 x0 (rd x17 x19)).f9) ((rd_T52 x0 (rd x17 x19)).f10) ((rd_T52 x0 (rd x17 x19)).f11) ((rd_T52 x0 (rd x17 x19)).f12) ((rd_T52 x0 (rd x17 x19)).f13) x545002).bind fun t548 => (fleet_Worth.l0 k x0 (wrap64 (x7 + t548)) x17 x18 (wrap64 (x19 + 1)) x545000 x545001 x545002 x545003 x545004 x545005 x545006)) else (none)) else (none)) else (none)) else (none)) else (some (x7, 0))
def fleet_Worth.f (k : Nat) (l0 : List (S52)) (l1_0 : List Int) (l1_1 : List Int) (a1_2 : Int) (a1_3 : Int) (a1_4 : Int) (a1_5 : Int) (l1_6 : List (S49)) : Option (Int × Int) := (fleet_Validate.f k l0 l1_0 l1_1 a1_2 a1_3 a1_4 a1_5 l1_6).bind fun t545 => (if t545 = 0 then (fleet_Worth.l0 k l0 0 l1_0 (l1_0.length : Int) 0 l1_0 l1_1 a1_2 a1_3 a1_4 a1_5 l1_6) else (some (0, t545)))
theorem fleet_Worth.mono_l : ∀ k, (∀ y0 y1 y2 y3 y4 y5 y6 y7 y8 y9 y10 y11, LeO (fleet_Worth.l0 k y0 y1 y2 y3 y4 y5 y6 y7 y8 y9 y10 y11) (fleet_Worth.l0 (k + 1) y0 y1 y2 y3 y4 y5 y6 y7 y8 y9 y10 y11))
  | 0 => fun _ _ _ _ _ _ _ _ _ _ _ _ r h => by simp [fleet_Worth.l0] at h
  | k + 1 => by
    have ih0 := fleet_Worth.mono_l k
    · intro y0 y1 y2 y3 y4 y5 y6 y7 y8 y9 y10 y11
      unfold fleet_Worth.l0
      repeat' first
      | (with_reducible first | exact ih0 _ _ _ _ _ _ _ _ _ _ _ _ | exact fleet_Validate.mono _ _ _ _ _ _ _ _ _ | exact LeO.refl _ | exact LeO.none _ | refine LeO.ite ?_ ?_ | refine LeO.bind ?_ (fun _ => ?_))
      | exact ih0 _ _ _ _ _ _ _ _ _ _ _ _
      | exact fleet_Validate.mono _ _ _ _ _ _ _ _ _
      | exact LeO.none _
      | refine LeO.ite ?_ ?_
      | refine LeO.bind ?_ (fun _ => ?_)
theorem fleet_Worth.mono : ∀ a0 a1 a2 a3 a4 a5 a6 a7 k, LeO (fleet_Worth.f k a0 a1 a2 a3 a4 a5 a6 a7) (fleet_Worth.f (k + 1) a0 a1 a2 a3 a4 a5 a6 a7) := by
  intro a0 a1 a2 a3 a4 a5 a6 a7 k
  have ih0 := fleet_Worth.mono_l k
  unfold fleet_Worth.f
  repeat' first
      | (with_reducible first | exact ih0 _ _ _ _ _ _ _ _ _ _ _ _ | exact fleet_Validate.mono _ _ _ _ _ _ _ _ _ | exact LeO.refl _ | exact LeO.none _ | refine LeO.ite ?_ ?_ | refine LeO.bind ?_ (fun _ => ?_))
      | exact ih0 _ _ _ _ _ _ _ _ _ _ _ _
      | exact fleet_Validate.mono _ _ _ _ _ _ _ _ _
      | exact LeO.none _
      | refine LeO.ite ?_ ?_
      | refine LeO.bind ?_ (fun _ => ?_)
def fleet_Worth.T8 : Bool × List (List Nat × List Nat) := (true, [([], []), ([], []), ([], []), ([1, 2], [1, 2]), ([3], [3]), ([], []), ([5], [5]), ([4, 6], [4, 6]), ([0, 7], [0, 7]), ([8, 7, 0, 1, 2, 3, 4, 5, 6, 7, 8], [0, 8])])
def fleet_Worth.B8 : List Nat := [0, 0, 0, 6, 14, 0, 32, 126, 255, 511]
theorem fleet_Worth.tab8 : rtab .any (opsOf Try.f15 8) = fleet_Worth.T8 := by kernel_rfl
theorem fleet_Worth.bits8 : waitsOk fleet_Worth.T8.2 fleet_Worth.B8 = true := by kernel_rfl
set_option maxHeartbeats 8000000 in
set_option maxRecDepth 100000 in
theorem fleet_Worth.calls (k : Nat) (A0 : Option Addr) (c0 : Nat) (l0 : List (S52)) (A1_0 : Option Addr) (c1_0 : Nat) (l1_0 : List Int) (A1_1 : Option Addr) (c1_1 : Nat) (l1_1 : List Int) (a1_2 : Int) (a1_3 : Int) (a1_4 : Int) (a1_5 : Int) (A1_6 : Option Addr) (c1_6 : Nat) (l1_6 : List (S49)) (r1 : Int) (r2 : Int) (w : World) (hr0 : Kd.C k52 w A0 l0.length l0) (hc0 : l0.length ≤ c0) (hr1_0 : Kd.C (Kd.int .i64) w A1_0 l1_0.length l1_0) (hc1_0 : l1_0.length ≤ c1_0) (hr1_1 : Kd.C (Kd.int .i64) w A1_1 l1_1.length l1_1) (hc1_1 : l1_1.length ≤ c1_1) (hr1_6 : Kd.C k49 w A1_6 l1_6.length l1_6) (hc1_6 : l1_6.length ≤ c1_6) (h : fleet_Worth.f k l0 l1_0 l1_1 a1_2 a1_3 a1_4 a1_5 l1_6 = some (r1, r2)) :
    Calls Try.prog 15 #[.slice A0 l0.length c0, .agg #[.slice A1_0 l1_0.length c1_0, .slice A1_1 l1_1.length c1_1, .int .i64 a1_2, .int .i64 a1_3, .int .i64 a1_4, .int .i64 a1_5, .slice A1_6 l1_6.length c1_6]] w fun e w' => e = .returned (.tuple #[.int .i64 r1, .int .i64 r2]) ∧ Below w.heap.size w w' := by
 have hu26 := Try.underlying26
 have hu52 := Try.underlying52
 have HR0 := Aside0.mk hr0
 have HC0 := Aside0.mk hc0
 clear hr0 hc0
 have HR1_0 := Aside0.mk hr1_0
 have HC1_0 := Aside0.mk hc1_0
 clear hr1_0 hc1_0
 have HR1_1 := Aside0.mk hr1_1
 have HC1_1 := Aside0.mk hc1_1
 clear hr1_1 hc1_1
 have HR1_6 := Aside0.mk hr1_6
 have HC1_6 := Aside0.mk hc1_6
 clear hr1_6 hc1_6
 have HB := Aside0.mk (Below.refl w.heap.size w)
 have H : ((fleet_Validate.f k l0 l1_0 l1_1 a1_2 a1_3 a1_4 a1_5 l1_6).bind fun t545 => (if t545 = 0 then (fleet_Worth.l0 k l0 0 l1_0 (l1_0.length : Int) 0 l1_0 l1_1 a1_2 a1_3 a1_4 a1_5 l1_6) else (some (0, t545)))) = some (r1, r2) := h
 clear h
 replace H := Option.bind_eq_some_iff.mp H
 obtain ⟨t545, A30, H⟩ := H
 replace H : (if t545 = 0 then (fleet_Worth.l0 k l0 0 l1_0 (l1_0.length : Int) 0 l1_0 l1_1 a1_2 a1_3 a1_4 a1_5 l1_6) else (some (0, t545))) = some (r1, r2) := H
 have A3 := Aside0.mk A30
 clear A30
 by_cases c4 : t545 = 0
 ·rw [if_pos c4] at H
  have c4b0 : (t545 == 0) = true := beq_iff_eq.mpr c4
  have c4b1 : (t545 != 0) = false := bne_eq_false_iff_eq.mpr c4
  clear c4
  have H' := Aside0.mk H
  clear H
  go_enter Try.func15, Try.ntmps15
  go_wp2_with (first | ((with_reducible refine gate_dst (N := 3) rfl ?_); refine box_event ?hg (N := 3) ?hd (cs := #[.slice A1_0 l1_0.length c1_0, .slice A1_1 l1_1.length c1_1, .int .i64 a1_2, .int .i64 a1_3, .int .i64 a1_4, .int .i64 a1_5, .slice A1_6 l1_6.length c1_6]) (t := 26) ?hr ?_; (case hd => rfl); (case hg => rfl); (case hr => first | (go_simp; done) | (go_simp; rfl)); intro gb544 hg w5 hbox hb; have BK544 := Aside0.mk (hbox); have GW544 := Aside0.mk ((dS_ hg (dL_ HB) : w.heap.size ≤ gb544)); have GE544 := Aside0.mk ((dS_ hg (dL_ HB) : w.heap.size ≤ gb544)); replace HB := Aside0.mk (below_step (dL_ HB) hb); clear hb hbox hg; obtain ⟨hcz6_0, hcz6_1, hcz6_2, hcz6_3, hcz6_4, hcz6_5, hcz6_6, hfz6_0, hfz6_1, hfz6_2, hfz6_3, hfz6_4, hfz6_5, hfz6_6⟩ := cs7_ BK544.out) | ((with_reducible refine gate_callee (f := 11) rfl ?_); refine goesL_ (some 12) rfl rfl Try.func11 (by kernel_rfl) rfl #[.slice A0 l0.length c0, .agg #[.slice A1_0 l1_0.length c1_0, .slice A1_1 l1_1.length c1_1, .int .i64 a1_2, .int .i64 a1_3, .int .i64 a1_4, .int .i64 a1_5, .slice A1_6 l1_6.length c1_6]] rfl tA_ ?_; (with_reducible refine (fleet_Validate.calls k _ _ l0 _ _ l1_0 _ _ l1_1 a1_2 a1_3 a1_4 a1_5 _ _ l1_6 t545 _ ?side1 ?side2 ?side3 ?side4 ?side5 ?side6 ?side7 ?side8 A3.out).mono ?_); (case side1 => exact dC_ HR0 HB); (case side2 => exact HC0.out); (case side3 => exact dC_ HR1_0 HB); (case side4 => exact HC1_0.out); (case side5 => exact dC_ HR1_1 HB); (case side6 => exact HC1_1.out); (case side7 => exact dC_ HR1_6 HB); (case side8 => exact HC1_6.out); rintro e w7 ⟨rfl, hb⟩; refine ⟨_, rfl, ?_⟩; replace BK544 := Aside0.mk (blk_below (g := gb544) (o := .cells #[.slice A1_0 l1_0.length c1_0, .slice A1_1 l1_1.length c1_1, .int .i64 a1_2, .int .i64 a1_3, .int .i64 a1_4, .int .i64 a1_5, .slice A1_6 l1_6.length c1_6] 26 (0, 0)) (dB_ BK544) hb); replace HB := Aside0.mk (below_step (dL1_ HB GE544) hb); obtain ⟨hcz8_0, hcz8_1, hcz8_2, hcz8_3, hcz8_4, hcz8_5, hcz8_6, hfz8_0, hfz8_1, hfz8_2, hfz8_3, hfz8_4, hfz8_5, hfz8_6⟩ := cs7_ BK544.out))
  go_loopg [7, 19] k (fun kq v7 v19 w' => ∃ (x7_1 : Int) (x19_1 : Int), v7 = .int .i64 x7_1 ∧ v19 = .int .i64 x19_1 ∧ Aside0 (fleet_Worth.l0 kq l0 x7_1 l1_0 (l1_0.length : Int) x19_1 l1_0 l1_1 a1_2 a1_3 a1_4 a1_5 l1_6 = some (r1, r2)) ∧ Aside0 (kq ≤ k) ∧ Aside0 (w'.heap[gb544]? = some (.cells #[(.slice A1_0 l1_0.length c1_0), (.slice A1_1 l1_1.length c1_1), .int .i64 a1_2, .int .i64 a1_3, .int .i64 a1_4, .int .i64 a1_5, (.slice A1_6 l1_6.length c1_6)] 26 (0, 0))) ∧ Aside0 (Below w.heap.size w w'))
  case atStart => exact ⟨(0), (0), tS_, tS_, H', ⟨Nat.le_refl _⟩, ⟨dB_ BK544⟩, ⟨dL1_ HB GE544⟩⟩
  case round =>
   clear H'
   try clear c4
   try clear c4b0
   try clear c4b1
   try clear hcz6_0
   try clear hcz6_1
   try clear hcz6_2
   try clear hcz6_3
   try clear hcz6_4
   try clear hcz6_5
   try clear hcz6_6
   try clear hcz8_0
   try clear hcz8_1
   try clear hcz8_2
   try clear hcz8_3
   try clear hcz8_4
   try clear hcz8_5
   try clear hcz8_6
   try clear hfz6_0
   try clear hfz6_1
   try clear hfz6_2
   try clear hfz6_3
   try clear hfz6_4
   try clear hfz6_5
   try clear hfz6_6
   try clear hfz8_0
   try clear hfz8_1
   try clear hfz8_2
   try clear hfz8_3
   try clear hfz8_4
   try clear hfz8_5
   try clear hfz8_6
   obtain ⟨x7_1, x19_1, rfl, rfl, HA, HK1, BK544, HB⟩ := hrel
   cases gk with
   | zero => exact absurd HA.out (by simp [fleet_Worth.l0])
   | succ k1 =>
    have H := HA.out
    clear HA
    simp only [fleet_Worth.l0] at H
    by_cases c9 : x19_1 < (l1_0.length : Int)
    ·rw [if_pos c9] at H
     have c9b0 : decide (x19_1 < (l1_0.length : Int)) = true := decide_eq_true c9
     clear c9
     by_cases c10 : 0 ≤ x19_1
     ·rw [if_pos c10] at H
      have c10b0 : decide (0 ≤ x19_1) = true := decide_eq_true c10
      clear c10
      by_cases c11 : x19_1 < (l1_0.length : Int)
      ·rw [if_pos c11] at H
       have c11b0 : decide (x19_1 < (l1_0.length : Int)) = true := decide_eq_true c11
       clear c11
       by_cases c12 : 0 ≤ (rd l1_0 x19_1)
       ·rw [if_pos c12] at H
        have c12b0 : decide (0 ≤ (rd l1_0 x19_1)) = true := decide_eq_true c12
        clear c12
        by_cases c13 : (rd l1_0 x19_1) < (l0.length : Int)
        ·rw [if_pos c13] at H
         have c13b0 : decide ((rd l1_0 x19_1) < (l0.length : Int)) = true := decide_eq_true c13
         clear c13
         replace H := Option.bind_eq_some_iff.mp H
         obtain ⟨t548, A140, H⟩ := H
         replace H : (fleet_Worth.l0 k1 l0 (wrap64 (x7_1 + t548)) l1_0 (l1_0.length : Int) (wrap64 (x19_1 + 1)) l1_0 l1_1 a1_2 a1_3 a1_4 a1_5 l1_6) = some (r1, r2) := H
         have A14 := Aside0.mk A140
         clear A140
         have H' := Aside0.mk H
         clear H
         have p546 : 0 ≤ (x19_1 : Int) := of_decide_eq_true tW_
         have q546 : x19_1 < (l1_0.length : Int) := of_decide_eq_true tW_
         obtain ⟨ad546, e546, hx546_0⟩ := Kd.at_int HR1_0.out x19_1 p546 q546
         cases e546
         replace hx546_0 := bc_ HB hx546_0
         replace p546 := eq_true p546
         replace q546 := eq_true q546
         try go_wp2
         replace BK544 := Aside0.mk (blk_drew BK544.out)
         replace HB := Aside0.mk (below_drew1 HB.out)
         have p547 : 0 ≤ ((rd l1_0 x19_1) : Int) := of_decide_eq_true tW_
         have q547 : (rd l1_0 x19_1) < (l0.length : Int) := of_decide_eq_true tW_
         obtain ⟨ad547, e547, hx547_0, hx547_1, hx547_2, hx547_3, hx547_4, hx547_5, hx547_6, hx547_7, hx547_8, hx547_9, hx547_10, hx547_11, hx547_12, hx547_13⟩ := at_T52 HR0.out (rd l1_0 x19_1) p547 q547
         have hw547_13 := hx547_13
         have hw547_12 := hx547_12
         have hw547_11 := hx547_11
         have hw547_10 := hx547_10
         have hw547_9 := hx547_9
         have hw547_8 := hx547_8
         have hw547_7 := hx547_7
         have hw547_6 := hx547_6
         have hw547_5 := hx547_5
         have hw547_4 := hx547_4
         have hw547_3 := hx547_3
         have hw547_2 := hx547_2
         have hw547_1 := hx547_1
         have hw547_0 := hx547_0
         cases e547
         replace hx547_0 := bc_ HB hx547_0
         replace hx547_1 := bc_ HB hx547_1
         replace hx547_2 := bc_ HB hx547_2
         replace hx547_3 := bc_ HB hx547_3
         replace hx547_4 := bc_ HB hx547_4
         replace hx547_5 := bc_ HB hx547_5
         replace hx547_6 := bc_ HB hx547_6
         replace hx547_7 := bc_ HB hx547_7
         replace hx547_8 := bc_ HB hx547_8
         replace hx547_9 := bc_ HB hx547_9
         replace hx547_10 := bc_ HB hx547_10
         replace hx547_11 := bc_ HB hx547_11
         replace hx547_12 := bc_ HB hx547_12
         replace hx547_13 := bc_ HB hx547_13
         replace p547 := eq_true p547
         replace q547 := eq_true q547
         refine start_ (n := 10) (S := fun w' => w'.cell? ⟨gb544, 0, none⟩ = some (.slice (some ad546) l1_0.length c1_0) ∧ w'.cell? ⟨gb544, 1, none⟩ = some (.slice A1_1 l1_1.length c1_1) ∧ w'.cell? ⟨gb544, 2, none⟩ = some (.int .i64 a1_2) ∧ w'.cell? ⟨gb544, 3, none⟩ = some (.int .i64 a1_3) ∧ w'.cell? ⟨gb544, 4, none⟩ = some (.int .i64 a1_4) ∧ w'.cell? ⟨gb544, 5, none⟩ = some (.int .i64 a1_5) ∧ w'.cell? ⟨gb544, 6, none⟩ = some (.slice A1_6 l1_6.length c1_6) ∧ w'.cell? (ad547.add (((rd l1_0 x19_1)).toNat * 14)) = some (.string ((rd_T52 l0 (rd l1_0 x19_1)).f0)) ∧ w'.cell? ⟨(ad547.add (((rd l1_0 x19_1)).toNat * 14)).block, (ad547.add (((rd l1_0 x19_1)).toNat * 14)).off + 1, none⟩ = some (.int .i64 ((rd_T52 l0 (rd l1_0 x19_1)).f1)) ∧ w'.cell? ⟨(ad547.add (((rd l1_0 x19_1)).toNat * 14)).block, (ad547.add (((rd l1_0 x19_1)).toNat * 14)).off + 2, none⟩ = some (.int .i64 ((rd_T52 l0 (rd l1_0 x19_1)).f2)) ∧ w'.cell? ⟨(ad547.add (((rd l1_0 x19_1)).toNat * 14)).block, (ad547.add (((rd l1_0 x19_1)).toNat * 14)).off + 3, none⟩ = some (.int .i64 ((rd_T52 l0 (rd l1_0 x19_1)).f3)) ∧ w'.cell? ⟨(ad547.add (((rd l1_0 x19_1)).toNat * 14)).block, (ad547.add (((rd l1_0 x19_1)).toNat * 14)).off + 4, none⟩ = some (.int .i64 ((rd_T52 l0 (rd l1_0 x19_1)).f4)) ∧ w'.cell? ⟨(ad547.add (((rd l1_0 x19_1)).toNat * 14)).block, (ad547.add (((rd l1_0 x19_1)).toNat * 14)).off + 5, none⟩ = some (.int .i64 ((rd_T52 l0 (rd l1_0 x19_1)).f5)) ∧ w'.cell? ⟨(ad547.add (((rd l1_0 x19_1)).toNat * 14)).block, (ad547.add (((rd l1_0 x19_1)).toNat * 14)).off + 6, none⟩ = some (.int .i64 ((rd_T52 l0 (rd l1_0 x19_1)).f6)) ∧ w'.cell? ⟨(ad547.add (((rd l1_0 x19_1)).toNat * 14)).block, (ad547.add (((rd l1_0 x19_1)).toNat * 14)).off + 7, none⟩ = some (.int .i64 ((rd_T52 l0 (rd l1_0 x19_1)).f7)) ∧ w'.cell? ⟨(ad547.add (((rd l1_0 x19_1)).toNat * 14)).block, (ad547.add (((rd l1_0 x19_1)).toNat * 14)).off + 8, none⟩ = some (.int .i64 ((rd_T52 l0 (rd l1_0 x19_1)).f8)) ∧ w'.cell? ⟨(ad547.add (((rd l1_0 x19_1)).toNat * 14)).block, (ad547.add (((rd l1_0 x19_1)).toNat * 14)).off + 9, none⟩ = some (.int .i64 ((rd_T52 l0 (rd l1_0 x19_1)).f9)) ∧ w'.cell? ⟨(ad547.add (((rd l1_0 x19_1)).toNat * 14)).block, (ad547.add (((rd l1_0 x19_1)).toNat * 14)).off + 10, none⟩ = some (.int .i64 ((rd_T52 l0 (rd l1_0 x19_1)).f10)) ∧ w'.cell? ⟨(ad547.add (((rd l1_0 x19_1)).toNat * 14)).block, (ad547.add (((rd l1_0 x19_1)).toNat * 14)).off + 11, none⟩ = some (.int .i64 ((rd_T52 l0 (rd l1_0 x19_1)).f11)) ∧ w'.cell? ⟨(ad547.add (((rd l1_0 x19_1)).toNat * 14)).block, (ad547.add (((rd l1_0 x19_1)).toNat * 14)).off + 12, none⟩ = some (.int .i64 ((rd_T52 l0 (rd l1_0 x19_1)).f12)) ∧ w'.cell? ⟨(ad547.add (((rd l1_0 x19_1)).toNat * 14)).block, (ad547.add (((rd l1_0 x19_1)).toNat * 14)).off + 13, none⟩ = some (.bool ((rd_T52 l0 (rd l1_0 x19_1)).f13))) (ds := []) #[false, false, false, false, false, false, false, false, false, false] (by kernel_rfl) rfl rfl ⟨(blk_cell BK544.out 0).trans rfl, (blk_cell BK544.out 1).trans rfl, (blk_cell BK544.out 2).trans rfl, (blk_cell BK544.out 3).trans rfl, (blk_cell BK544.out 4).trans rfl, (blk_cell BK544.out 5).trans rfl, (blk_cell BK544.out 6).trans rfl, ((HB.out.cell (World.block_lt_of_cell? w _ hw547_0)).trans hw547_0), ((HB.out.cell (World.block_lt_of_cell? w _ hw547_1)).trans hw547_1), ((HB.out.cell (World.block_lt_of_cell? w _ hw547_2)).trans hw547_2), ((HB.out.cell (World.block_lt_of_cell? w _ hw547_3)).trans hw547_3), ((HB.out.cell (World.block_lt_of_cell? w _ hw547_4)).trans hw547_4), ((HB.out.cell (World.block_lt_of_cell? w _ hw547_5)).trans hw547_5), ((HB.out.cell (World.block_lt_of_cell? w _ hw547_6)).trans hw547_6), ((HB.out.cell (World.block_lt_of_cell? w _ hw547_7)).trans hw547_7), ((HB.out.cell (World.block_lt_of_cell? w _ hw547_8)).trans hw547_8), ((HB.out.cell (World.block_lt_of_cell? w _ hw547_9)).trans hw547_9), ((HB.out.cell (World.block_lt_of_cell? w _ hw547_10)).trans hw547_10), ((HB.out.cell (World.block_lt_of_cell? w _ hw547_11)).trans hw547_11), ((HB.out.cell (World.block_lt_of_cell? w _ hw547_12)).trans hw547_12), ((HB.out.cell (World.block_lt_of_cell? w _ hw547_13)).trans hw547_13)⟩ (fun hHeld => ?_); refine with_tabW fleet_Worth.tab8 fleet_Worth.bits8 (fun HT_ HW_ => ?_)
         generalize wr.drew = w15 at BK544 HB hx547_0 hx547_1 hx547_10 hx547_11 hx547_12 hx547_13 hx547_2 hx547_3 hx547_4 hx547_5 hx547_6 hx547_7 hx547_8 hx547_9 hHeld ⊢
         refine pure_ (i := 0) (N := some 23) (v := ?_) (a' := ?_) #[true, false, false, false, false, false, false, false, false, false] rfl rfl (any_of HT_.out (by kernel_rfl)) (fun _ _ _ h => h) (Or.inl ⟨by rfl, ?_⟩) ?_ ?_
         rotate_left
         ·intro w'
          go_simp
          with_reducible rfl
         rotate_left
         ·simp only [Act.put, sI_, s0_, sS_, i64_w, i32_w]
          rfl
         refine pure_ (i := 1) (N := some 24) (v := ?_) (a' := ?_) #[true, true, false, false, false, false, false, false, false, false] rfl rfl (any_of HT_.out (by kernel_rfl)) (fun _ _ _ h => h) (Or.inl ⟨by rfl, ?_⟩) ?_ ?_
         rotate_left
         ·intro w'
          go_simp
          with_reducible rfl
         rotate_left
         ·simp only [Act.put, sI_, s0_, sS_, i64_w, i32_w]
          rfl
         refine pure_ (i := 2) (N := some 25) (v := ?_) (a' := ?_) #[true, true, true, false, false, false, false, false, false, false] rfl rfl (any_of HT_.out (by kernel_rfl)) (fun _ _ _ h => h) (Or.inl ⟨by rfl, ?_⟩) ?_ ?_
         rotate_left
         ·intro w'
          go_simp
          with_reducible rfl
         rotate_left
         ·simp only [Act.put, sI_, s0_, sS_, i64_w, i32_w]
          rfl
         refine pure_ (i := 3) (N := some 26) (v := ?_) (a' := ?_) #[true, true, true, true, false, false, false, false, false, false] rfl rfl (any_of HT_.out (by kernel_rfl)) (fun _ _ _ h => h) (Or.inl ⟨by rfl, ?_⟩) ?_ ?_
         rotate_left
         ·intro w'
          go_simp
          with_reducible rfl
         rotate_left
         ·simp only [Act.put, sI_, s0_, sS_, i64_w, i32_w]
          rfl
         refine pure_ (i := 5) (N := some 28) (v := ?_) (a' := ?_) #[true, true, true, true, false, true, false, false, false, false] rfl rfl (any_of HT_.out (by kernel_rfl)) (fun _ _ _ h => h) (Or.inl ⟨by rfl, ?_⟩) ?_ ?_
         rotate_left
         ·intro w'
          go_simp
          with_reducible rfl
         rotate_left
         ·simp only [Act.put, sI_, s0_, sS_, i64_w, i32_w]
          rfl
         refine take_ (i := 4) (N := some 27) (v := ?_) (a' := ?_) #[true, true, true, true, true, true, false, false, false, false] rfl rfl (take_ofW HT_.out HW_.out (by kernel_rfl)) (fun _ _ _ h => h) (Or.inl ⟨by rfl, ?_⟩) hHeld ?_ ?_
         rotate_left
         ·rintro w' ⟨s0, s1, s2, s3, s4, s5, s6, s7, s8, s9, s10, s11, s12, s13, s14, s15, s16, s17, s18, s19, s20⟩
          go_simp
          with_reducible rfl
         rotate_left
         ·simp only [Act.put, sI_, s0_, sS_, i64_w, i32_w]
          rfl
         refine take_ (i := 6) (N := some 29) (v := ?_) (a' := ?_) #[true, true, true, true, true, true, true, false, false, false] rfl rfl (take_ofW HT_.out HW_.out (by kernel_rfl)) (fun _ _ _ h => h) (Or.inl ⟨by rfl, ?_⟩) hHeld ?_ ?_
         rotate_left
         ·rintro w' ⟨s0, s1, s2, s3, s4, s5, s6, s7, s8, s9, s10, s11, s12, s13, s14, s15, s16, s17, s18, s19, s20⟩
          go_simp
          with_reducible rfl
         rotate_left
         ·simp only [Act.put, sI_, s0_, sS_, i64_w, i32_w]
          rfl
         refine one_ (i := 7) (N := some 30) #[true, true, true, true, true, true, true, true, false, false] rfl rfl (one_of HT_.out (by kernel_rfl)) (by decide) (fun K hK => ?_)
         refine goes_ Try.func21 (by kernel_rfl) rfl #[.agg #[.string ((rd_T52 l0 (rd l1_0 x19_1)).f0), .int .i64 ((rd_T52 l0 (rd l1_0 x19_1)).f1), .int .i64 ((rd_T52 l0 (rd l1_0 x19_1)).f2), .int .i64 ((rd_T52 l0 (rd l1_0 x19_1)).f3), .int .i64 ((rd_T52 l0 (rd l1_0 x19_1)).f4), .int .i64 ((rd_T52 l0 (rd l1_0 x19_1)).f5), .int .i64 ((rd_T52 l0 (rd l1_0 x19_1)).f6), .int .i64 ((rd_T52 l0 (rd l1_0 x19_1)).f7), .int .i64 ((rd_T52 l0 (rd l1_0 x19_1)).f8), .int .i64 ((rd_T52 l0 (rd l1_0 x19_1)).f9), .int .i64 ((rd_T52 l0 (rd l1_0 x19_1)).f10), .int .i64 ((rd_T52 l0 (rd l1_0 x19_1)).f11), .int .i64 ((rd_T52 l0 (rd l1_0 x19_1)).f12), .bool ((rd_T52 l0 (rd l1_0 x19_1)).f13)], .int .i64 a1_2] (by rfl) rfl rfl tA_ ?_
         with_reducible refine (fleet_worth.calls ((rd_T52 l0 (rd l1_0 x19_1)).f0) ((rd_T52 l0 (rd l1_0 x19_1)).f1) ((rd_T52 l0 (rd l1_0 x19_1)).f2) ((rd_T52 l0 (rd l1_0 x19_1)).f3) ((rd_T52 l0 (rd l1_0 x19_1)).f4) ((rd_T52 l0 (rd l1_0 x19_1)).f5) ((rd_T52 l0 (rd l1_0 x19_1)).f6) ((rd_T52 l0 (rd l1_0 x19_1)).f7) ((rd_T52 l0 (rd l1_0 x19_1)).f8) ((rd_T52 l0 (rd l1_0 x19_1)).f9) ((rd_T52 l0 (rd l1_0 x19_1)).f10) ((rd_T52 l0 (rd l1_0 x19_1)).f11) ((rd_T52 l0 (rd l1_0 x19_1)).f12) ((rd_T52 l0 (rd l1_0 x19_1)).f13) a1_2 t548 _ A14.out).mono ?_
         rintro e w16 ⟨rfl, hb⟩
         refine ⟨_, rfl, ?_⟩
         replace BK544 := Aside0.mk (blk_below (g := gb544) (o := .cells #[.slice (some ad546) l1_0.length c1_0, .slice A1_1 l1_1.length c1_1, .int .i64 a1_2, .int .i64 a1_3, .int .i64 a1_4, .int .i64 a1_5, .slice A1_6 l1_6.length c1_6] 26 (0, 0)) (dB_ BK544) hb)
         replace HB := Aside0.mk (below_step (dL1_ HB GE544) hb)
         (try clear hb)
         (try clear hb2)
         (try clear hk)
         (try clear hi)
         refine hK.out _ _ ⟨(blk_cell BK544.out 0).trans rfl, (blk_cell BK544.out 1).trans rfl, (blk_cell BK544.out 2).trans rfl, (blk_cell BK544.out 3).trans rfl, (blk_cell BK544.out 4).trans rfl, (blk_cell BK544.out 5).trans rfl, (blk_cell BK544.out 6).trans rfl, ((HB.out.cell (World.block_lt_of_cell? w _ hw547_0)).trans hw547_0), ((HB.out.cell (World.block_lt_of_cell? w _ hw547_1)).trans hw547_1), ((HB.out.cell (World.block_lt_of_cell? w _ hw547_2)).trans hw547_2), ((HB.out.cell (World.block_lt_of_cell? w _ hw547_3)).trans hw547_3), ((HB.out.cell (World.block_lt_of_cell? w _ hw547_4)).trans hw547_4), ((HB.out.cell (World.block_lt_of_cell? w _ hw547_5)).trans hw547_5), ((HB.out.cell (World.block_lt_of_cell? w _ hw547_6)).trans hw547_6), ((HB.out.cell (World.block_lt_of_cell? w _ hw547_7)).trans hw547_7), ((HB.out.cell (World.block_lt_of_cell? w _ hw547_8)).trans hw547_8), ((HB.out.cell (World.block_lt_of_cell? w _ hw547_9)).trans hw547_9), ((HB.out.cell (World.block_lt_of_cell? w _ hw547_10)).trans hw547_10), ((HB.out.cell (World.block_lt_of_cell? w _ hw547_11)).trans hw547_11), ((HB.out.cell (World.block_lt_of_cell? w _ hw547_12)).trans hw547_12), ((HB.out.cell (World.block_lt_of_cell? w _ hw547_13)).trans hw547_13)⟩ (fun hHeld => ?_)
         clear hK K
         refine norm_ (a' := ?_) ?_ ?_
         rotate_left
         ·show Act.put _ (some 30) _ = _
          simp only [Act.put, sI_, s0_, sS_, i64_w, i32_w]
          rfl
         refine pure_ (i := 8) (N := some 31) (v := ?_) (a' := ?_) #[true, true, true, true, true, true, true, true, true, false] rfl rfl (any_of HT_.out (by kernel_rfl)) (fun _ _ _ h => h) (Or.inl ⟨by rfl, ?_⟩) ?_ ?_
         rotate_left
         ·intro w'
          go_simp
          with_reducible rfl
         rotate_left
         ·simp only [Act.put, sI_, s0_, sS_, i64_w, i32_w]
          rfl
         refine pure_ (i := 9) (N := some 7) (v := ?_) (a' := ?_) #[true, true, true, true, true, true, true, true, true, true] rfl rfl (any_of HT_.out (by kernel_rfl)) (fun _ _ _ h => h) (Or.inl ⟨by rfl, ?_⟩) ?_ ?_
         rotate_left
         ·intro w'
          go_simp
          with_reducible rfl
         rotate_left
         ·simp only [Act.put, sI_, s0_, sS_, i64_w, i32_w]
          rfl
         refine done_ (done_of HT_.out (by kernel_rfl)) ?_
         try go_wp2
         go_roundg k1
         case measure => have := HK1.out; omega
         case rel => exact ⟨(wrap64 (x7_1 + t548)), (wrap64 (x19_1 + 1)), tS_, tS_, H', ⟨by have := HK1.out; omega⟩, ⟨dB_ BK544⟩, ⟨dL1_ HB GE544⟩⟩
        ·rw [if_neg c13] at H
         exact absurd H (by simp)
       ·rw [if_neg c12] at H
        exact absurd H (by simp)
      ·rw [if_neg c11] at H
       exact absurd H (by simp)
     ·rw [if_neg c10] at H
      exact absurd H (by simp)
    ·rw [if_neg c9] at H
     have c9b0 : decide (x19_1 < (l1_0.length : Int)) = false := decide_eq_false c9
     clear c9
     simp only [Option.some.injEq, Prod.mk.injEq] at H
     obtain ⟨rfl, rfl⟩ := H
     go_wp2
     go_ret2
     exact ⟨tE_, dL1_ HB GE544⟩
 ·rw [if_neg c4] at H
  have c4b0 : (t545 == 0) = false := beq_eq_false_iff_ne.mpr c4
  have c4b1 : (t545 != 0) = true := bne_iff_ne.mpr c4
  simp only [Option.some.injEq, Prod.mk.injEq] at H
  obtain ⟨rfl, rfl⟩ := H
  go_enter Try.func15, Try.ntmps15
  go_wp2_with (first | ((with_reducible refine gate_dst (N := 3) rfl ?_); refine box_event ?hg (N := 3) ?hd (cs := #[.slice A1_0 l1_0.length c1_0, .slice A1_1 l1_1.length c1_1, .int .i64 a1_2, .int .i64 a1_3, .int .i64 a1_4, .int .i64 a1_5, .slice A1_6 l1_6.length c1_6]) (t := 26) ?hr ?_; (case hd => rfl); (case hg => rfl); (case hr => first | (go_simp; done) | (go_simp; rfl)); intro gb544 hg w17 hbox hb; have BK544 := Aside0.mk (hbox); have GW544 := Aside0.mk ((dS_ hg (dL_ HB) : w.heap.size ≤ gb544)); have GE544 := Aside0.mk ((dS_ hg (dL_ HB) : w.heap.size ≤ gb544)); replace HB := Aside0.mk (below_step (dL_ HB) hb); clear hb hbox hg; obtain ⟨hcz18_0, hcz18_1, hcz18_2, hcz18_3, hcz18_4, hcz18_5, hcz18_6, hfz18_0, hfz18_1, hfz18_2, hfz18_3, hfz18_4, hfz18_5, hfz18_6⟩ := cs7_ BK544.out) | ((with_reducible refine gate_callee (f := 11) rfl ?_); refine goesL_ (some 12) rfl rfl Try.func11 (by kernel_rfl) rfl #[.slice A0 l0.length c0, .agg #[.slice A1_0 l1_0.length c1_0, .slice A1_1 l1_1.length c1_1, .int .i64 a1_2, .int .i64 a1_3, .int .i64 a1_4, .int .i64 a1_5, .slice A1_6 l1_6.length c1_6]] rfl tA_ ?_; (with_reducible refine (fleet_Validate.calls k _ _ l0 _ _ l1_0 _ _ l1_1 a1_2 a1_3 a1_4 a1_5 _ _ l1_6 t545 _ ?side1 ?side2 ?side3 ?side4 ?side5 ?side6 ?side7 ?side8 A3.out).mono ?_); (case side1 => exact dC_ HR0 HB); (case side2 => exact HC0.out); (case side3 => exact dC_ HR1_0 HB); (case side4 => exact HC1_0.out); (case side5 => exact dC_ HR1_1 HB); (case side6 => exact HC1_1.out); (case side7 => exact dC_ HR1_6 HB); (case side8 => exact HC1_6.out); rintro e w19 ⟨rfl, hb⟩; refine ⟨_, rfl, ?_⟩; replace BK544 := Aside0.mk (blk_below (g := gb544) (o := .cells #[.slice A1_0 l1_0.length c1_0, .slice A1_1 l1_1.length c1_1, .int .i64 a1_2, .int .i64 a1_3, .int .i64 a1_4, .int .i64 a1_5, .slice A1_6 l1_6.length c1_6] 26 (0, 0)) (dB_ BK544) hb); replace HB := Aside0.mk (below_step (dL1_ HB GE544) hb)))
  go_ret2
  exact ⟨tE_, dL1_ HB GE544⟩

end Go.Proofs.Ytgnahbjpockdmab.Q
