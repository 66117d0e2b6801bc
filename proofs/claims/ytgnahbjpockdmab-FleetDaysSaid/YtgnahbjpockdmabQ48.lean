-- PRINTED by print.py out of the translation. Not trusted: Lean checks it.
import Derived.Test.YtgnahbjpockdmabPrs
import Derived.Test.YtgnahbjpockdmabQ0
import Derived.Test.YtgnahbjpockdmabQ38
namespace Go.Proofs.Ytgnahbjpockdmab.Q
open Go.RowKit Go.Proofs.YtgnahbjpockdmabPrs Go.Proofs.YtgnahbjpockdmabOwn Go.Proofs.YtgnahbjpockdmabW.PrintWords Go.Proofs.YtgnahbjpockdmabW.PrintLast Go.Proofs.YtgnahbjpockdmabW.PrintMore
open List renaming setIfInBounds_toArray → sI_, set_cons_zero → s0_, set_cons_succ → sS_
attribute [local go_sem] max2_int min2_int max_two min_two max_three min_three max_four min_four   -- for this text's walks alone
set_option linter.unusedVariables false
set_option linter.unusedSimpArgs false

/-! ### hinterlandref01_Below: function 43 -/
mutual
def hinterlandref01_Below.l0 : Nat → Int → Int → Int → Int → Option (Int × Int)
  | 0, _, _, _, _ => none
  | k + 1, x6, x7, x8, x470000 => (hinterlandref01_At.f x470000 x8).bind fun t471 => (if x7 = 0 then (hinterlandref01_Below.j1 k x6 x7 x8 t471 true x470000) else (hinterlandref01_Below.j1 k x6 x7 x8 t471 (decide (t471 < (IntKind.u64.wrap (-x7)))) x470000))
def hinterlandref01_Below.j1 : Nat → Int → Int → Int → Int → Bool → Int → Option (Int × Int)
  | 0, _, _, _, _, _, _ => none
  | k + 1, x6, x7, x8, x9, x32, x470000 => if x32 = true then (if x6 = 0 then (none) else (some (wrap64 (Int.tmod x9 x6), IntKind.u64.wrap (x470000 + (IntKind.u64.wrap (x8 * 11400714819323198485)))))) else (hinterlandref01_Below.l0 k x6 x7 (IntKind.u64.wrap (x8 + 1)) x470000)
end
def hinterlandref01_Below.f (k : Nat) (a0_0 : Int) (a1 : Int) : Option (Int × Int) := if a1 < 1 then (some (0, a0_0)) else (if (IntKind.u64.wrap (a1)) = 0 then (none) else (hinterlandref01_Below.l0 k (IntKind.u64.wrap (a1)) (Int.tmod (IntKind.u64.wrap (((18446744073709551615 : Int) % (IntKind.u64.wrap (a1))) + 1)) (IntKind.u64.wrap (a1))) 1 a0_0))
theorem hinterlandref01_Below.mono_l : ∀ k, (∀ y0 y1 y2 y3, LeO (hinterlandref01_Below.l0 k y0 y1 y2 y3) (hinterlandref01_Below.l0 (k + 1) y0 y1 y2 y3)) ∧ (∀ y0 y1 y2 y3 y4 y5, LeO (hinterlandref01_Below.j1 k y0 y1 y2 y3 y4 y5) (hinterlandref01_Below.j1 (k + 1) y0 y1 y2 y3 y4 y5))
  | 0 => ⟨fun _ _ _ _ r h => by simp [hinterlandref01_Below.l0] at h, fun _ _ _ _ _ _ r h => by simp [hinterlandref01_Below.j1] at h⟩
  | k + 1 => by
    obtain ⟨ih0, ih1⟩ := hinterlandref01_Below.mono_l k; refine ⟨?_, ?_⟩
    · intro y0 y1 y2 y3
      unfold hinterlandref01_Below.l0
      repeat' first
      | (with_reducible first | apply ih0 | apply ih1 | exact LeO.refl _ | exact LeO.none _ | refine LeO.ite ?_ ?_ | refine LeO.bind ?_ (fun _ => ?_))
    · intro y0 y1 y2 y3 y4 y5
      unfold hinterlandref01_Below.j1
      repeat' first
      | (with_reducible first | apply ih0 | apply ih1 | exact LeO.refl _ | exact LeO.none _ | refine LeO.ite ?_ ?_ | refine LeO.bind ?_ (fun _ => ?_))
theorem hinterlandref01_Below.mono : ∀ a0 a1 k, LeO (hinterlandref01_Below.f k a0 a1) (hinterlandref01_Below.f (k + 1) a0 a1) := by
  intro a0 a1 k; obtain ⟨ih0, ih1⟩ := hinterlandref01_Below.mono_l k
  unfold hinterlandref01_Below.f
  repeat' first
      | (with_reducible first | apply ih0 | apply ih1 | exact LeO.refl _ | exact LeO.none _ | refine LeO.ite ?_ ?_ | refine LeO.bind ?_ (fun _ => ?_))
def hinterlandref01_Below.T9 : Bool × List (List Nat × List Nat) := (true, [([], []), ([], []), ([0, 1], [0, 1]), ([2], [2]), ([], []), ([4], [4]), ([], []), ([6], [6]), ([5, 7], [5, 7]), ([8], [8]), ([3, 0, 1, 2, 3], [3]), ([9, 10, 0, 1, 2, 3, 4, 5, 6, 7, 8, 9, 10], [9])])
def hinterlandref01_Below.B9 : List Nat := [0, 0, 3, 7, 0, 16, 0, 64, 240, 496, 15, 2047]
theorem hinterlandref01_Below.tab9 : rtab .any (opsOf Try.f43 9) = hinterlandref01_Below.T9 := by kernel_rfl
theorem hinterlandref01_Below.bits9 : waitsOk hinterlandref01_Below.T9.2 hinterlandref01_Below.B9 = true := by kernel_rfl
set_option maxHeartbeats 8000000 in
set_option maxRecDepth 100000 in
theorem hinterlandref01_Below.calls (k : Nat) (a0_0 : Int) (a1 : Int) (r1 : Int) (r2 : Int) (w : World) (h : hinterlandref01_Below.f k a0_0 a1 = some (r1, r2)) :
    Calls Try.prog 43 #[.agg #[.int .u64 a0_0], .int .i64 a1] w fun e w' => e = .returned (.tuple #[.int .i64 r1, .agg #[.int .u64 r2]]) ∧ Below w.heap.size w w' := by
 have hu37 := Try.underlying37; have HB := Aside0.mk (Below.refl w.heap.size w); have H : (if a1 < 1 then (some (0, a0_0)) else (if (IntKind.u64.wrap (a1)) = 0 then (none) else (hinterlandref01_Below.l0 k (IntKind.u64.wrap (a1)) (Int.tmod (IntKind.u64.wrap (((18446744073709551615 : Int) % (IntKind.u64.wrap (a1))) + 1)) (IntKind.u64.wrap (a1))) 1 a0_0))) = some (r1, r2) := h; clear h
 by_cases c3 : a1 < 1
 ·rw [if_pos c3] at H; have c3b0 : decide (a1 < 1) = true := decide_eq_true c3; clear c3; simp only [Option.some.injEq, Prod.mk.injEq] at H; obtain ⟨rfl, rfl⟩ := H
  go_enter Try.func43, Try.ntmps43
  try go_wp2_with (first | ((with_reducible refine gate_dst (N := 2) rfl ?_); refine bx_ (N := 2) (cs := #[.int .u64 a0_0]) (t := 37) ?_; intro gb469 hg w4 hbox hb; have BK469 := Aside0.mk (hbox); have GW469 := Aside0.mk ((dS_ hg (dL_ HB) : w.heap.size ≤ gb469)); have GE469 := GW469; replace HB := Aside0.mk (below_step (dL_ HB) hb); clear hb hbox hg) | ((with_reducible refine gate_dst (N := 5) rfl ?_); refine bx_ (N := 5) (cs := #[.int .u64 0]) (t := 37) ?_; intro gb470 hg w5 hbox hb; have BK470 := Aside0.mk (hbox); have GW470 := Aside0.mk ((dS_ hg (dL1_ HB GE469) : w.heap.size ≤ gb470)); have GE470 := GW470; replace HB := Aside0.mk (below_step (dL1_ HB GE469) hb); have NB469_470 := nb_ hg BK469; have NB470_469 := nc_ hg BK469; replace BK469 := bk_ BK469 hb; clear hb hbox hg))
  replace BK469 := Aside0.mk (blk_drew BK469.out); replace BK470 := Aside0.mk (blk_drew BK470.out); replace HB := Aside0.mk (below_drew1 HB.out); refine start_ (n := 3) (S := fun w' => w'.cell? ⟨gb469, 0, none⟩ = some (.int .u64 a0_0)) (ds := []) #[false, false, false] (by kernel_rfl) rfl rfl ((blk_cell BK469.out 0).trans rfl) (fun hHeld => ?_); generalize w5.drew = w6 at BK469 BK470 HB hHeld ⊢; refine pure_ (i := 1) (N := some 4) (v := ?_) (a' := ?_) #[false, true, false] rfl rfl (by kernel_rfl) (fun _ _ _ h => h) (Or.inl ⟨by rfl, ?_⟩) ?_ ?_; rotate_left; (intro w'; go_simp; with_reducible rfl); rotate_left; (simp only [Act.put, sI_, s0_, sS_, i64_w, i32_w]; rfl); refine take_ (i := 0) (N := some 12) (v := ?_) (a' := ?_) #[true, true, false] rfl rfl (by kernel_rfl) (fun _ _ _ h => h) (Or.inl ⟨by rfl, ?_⟩) hHeld ?_ ?_; rotate_left; (intro w' s0; go_simp; with_reducible rfl); rotate_left; (simp only [Act.put, sI_, s0_, sS_, i64_w, i32_w]; rfl); refine one_ (i := 2) (N := none) #[true, true, true] rfl rfl (by kernel_rfl) (by decide) (fun K hK => ?_); have hs7 : w6.cell? ⟨gb470, 0, none⟩ = some (.int .u64 0) := (blk_cell BK470.out 0).trans rfl; have hfs7 := blk_frozen BK470.out 0; have hns7_0 := NB469_470.out; have hms7_0 := NB470_469.out; refine skip_ (w1 := ?_) (by rfl) rfl ?_ ?_
  rotate_left
  ·go_simp
   rfl
  refine hK.out _ _ (((cell_far (p := ⟨gb470, _, none⟩) NB469_470.out _).trans (hHeld))) (fun hHeld => ?_); clear hK K; refine done_ (by kernel_rfl) ?_
  try go_wp2
  refine bodyPost_ret (results_tc rfl _ _ gb470 37 #[.int .u64 a0_0] (0, 0) _ rfl (bz_ BK470) Try.underlying37 rfl (by kernel_rfl)) rfl ?_; exact ⟨tE_, dL2_ HB GE469 GE470⟩
 ·rw [if_neg c3] at H; have c3b0 : decide (a1 < 1) = false := decide_eq_false c3; clear c3
  by_cases c8 : (IntKind.u64.wrap (a1)) = 0
  ·rw [if_pos c8] at H; exact absurd H (by simp)
  ·rw [if_neg c8] at H; have c8b0 : ((IntKind.u64.wrap (a1)) == 0) = false := beq_eq_false_iff_ne.mpr c8; have c8b1 : ((IntKind.u64.wrap (a1)) != 0) = true := bne_iff_ne.mpr c8; have H' := Aside0.mk H; clear H
   go_enter Try.func43, Try.ntmps43
   go_wp2_with (first | ((with_reducible refine gate_dst (N := 2) rfl ?_); refine bx_ (N := 2) (cs := #[.int .u64 a0_0]) (t := 37) ?_; intro gb469 hg w9 hbox hb; have BK469 := Aside0.mk (hbox); have GW469 := Aside0.mk ((dS_ hg (dL_ HB) : w.heap.size ≤ gb469)); have GE469 := GW469; replace HB := Aside0.mk (below_step (dL_ HB) hb); clear hb hbox hg) | ((with_reducible refine gate_dst (N := 5) rfl ?_); refine bx_ (N := 5) (cs := #[.int .u64 0]) (t := 37) ?_; intro gb470 hg w10 hbox hb; have BK470 := Aside0.mk (hbox); have GW470 := Aside0.mk ((dS_ hg (dL1_ HB GE469) : w.heap.size ≤ gb470)); have GE470 := GW470; replace HB := Aside0.mk (below_step (dL1_ HB GE469) hb); have NB469_470 := nb_ hg BK469; have NB470_469 := nc_ hg BK469; replace BK469 := bk_ BK469 hb; clear hb hbox hg))
   go_loopg [8] k (fun kq v8 w' => ∃ (x8_1 : Int) (x471000_1 : Int), v8 = .int .u64 x8_1 ∧ Aside0 (hinterlandref01_Below.l0 kq (IntKind.u64.wrap (a1)) (Int.tmod (IntKind.u64.wrap (((18446744073709551615 : Int) % (IntKind.u64.wrap (a1))) + 1)) (IntKind.u64.wrap (a1))) x8_1 a0_0 = some (r1, r2)) ∧ Aside0 (kq ≤ k) ∧ Aside0 (w'.heap[gb469]? = some (.cells #[.int .u64 a0_0] 37 (0, 0))) ∧ Aside0 (w'.heap[gb470]? = some (.cells #[.int .u64 x471000_1] 37 (0, 0))) ∧ Aside0 (Below w.heap.size w w'))
   case atStart => exact ⟨(1), (0), tS_, H', ⟨Nat.le_refl _⟩, ⟨dB_ BK469⟩, ⟨dB_ BK470⟩, ⟨dL2_ HB GE469 GE470⟩⟩
   case round =>
    clear H'; (try clear c3); (try clear c3b0); (try clear c8); (try clear c8b0); (try clear c8b1); obtain ⟨x8_1, x471000_1, rfl, HA, HK1, BK469, BK470, HB⟩ := hrel
    cases gk with
    | zero => exact absurd HA.out (by simp [hinterlandref01_Below.l0])
    | succ k1 =>
     have H := HA.out; clear HA; simp only [hinterlandref01_Below.l0] at H; replace H := Option.bind_eq_some_iff.mp H; obtain ⟨t471, A110, H⟩ := H; have A11 := Aside0.mk A110; clear A110; have HC12 := Aside0.mk H; clear H; have hnb13 := NB469_470.out; have hnc13 := NB470_469.out; have hcz14_0 : wr.cell? ⟨gb469, 0, none⟩ = some (.int .u64 a0_0) := (blk_cell BK469.out 0).trans rfl; have hfz14_0 := blk_frozen BK469.out 0
     go_upto_region 8 with (first | ((with_reducible refine gate_callee (f := 52) rfl ?_); refine gL_ (some 24) Try.func52 #[.agg #[.int .u64 a0_0], .int .u64 x8_1] ?_ rfl; (with_reducible refine (hinterlandref01_At.calls a0_0 x8_1 t471 _ A11.out).mono ?_); rintro e w15 ⟨rfl, hb⟩; refine ⟨_, rfl, ?_⟩; replace BK469 := bk_ BK469 hb; replace BK470 := bk_ BK470 hb; replace HB := Aside0.mk (below_step (dL2_ HB GE469 GE470) hb)))
     (try simp only [Act.put, sI_, s0_, sS_])
     go_cut [32] (fun v32 wc => ∃ (kq : Nat) (x32_11 : Bool), v32 = .bool x32_11 ∧ Aside0 (hinterlandref01_Below.j1 kq (IntKind.u64.wrap (a1)) (Int.tmod (IntKind.u64.wrap (((18446744073709551615 : Int) % (IntKind.u64.wrap (a1))) + 1)) (IntKind.u64.wrap (a1))) x8_1 t471 x32_11 a0_0 = some (r1, r2)) ∧ Aside0 (kq ≤ k1) ∧ Aside0 (wc.heap[gb469]? = some (.cells #[.int .u64 a0_0] 37 (0, 0))) ∧ Aside0 (wc.heap[gb470]? = some (.cells #[.int .u64 x471000_1] 37 (0, 0))) ∧ Aside0 (Below w.heap.size w wc))
     case first =>
      have H := HC12.out; clear HC12
      by_cases c16 : (Int.tmod (IntKind.u64.wrap (((18446744073709551615 : Int) % (IntKind.u64.wrap (a1))) + 1)) (IntKind.u64.wrap (a1))) = 0
      ·rw [if_pos c16] at H; have c16b0 : ((Int.tmod (IntKind.u64.wrap (((18446744073709551615 : Int) % (IntKind.u64.wrap (a1))) + 1)) (IntKind.u64.wrap (a1))) == 0) = true := beq_iff_eq.mpr c16; have c16b1 : ((Int.tmod (IntKind.u64.wrap (((18446744073709551615 : Int) % (IntKind.u64.wrap (a1))) + 1)) (IntKind.u64.wrap (a1))) != 0) = false := bne_eq_false_iff_eq.mpr c16; clear c16
       (first | rw [c16b0] | (simp only [i64_w, i32_w]; rw [c16b0]) | skip)
       have H' := Aside0.mk H; clear H; go_wp2
       go_meet
       case rel => exact ⟨_, (true), tS_, H', ⟨by have := HK1.out; first | omega | exact Nat.le_refl _⟩, ⟨dB_ BK469⟩, ⟨dB_ BK470⟩, ⟨dL2_ HB GE469 GE470⟩⟩
      ·rw [if_neg c16] at H; have c16b0 : ((Int.tmod (IntKind.u64.wrap (((18446744073709551615 : Int) % (IntKind.u64.wrap (a1))) + 1)) (IntKind.u64.wrap (a1))) == 0) = false := beq_eq_false_iff_ne.mpr c16; have c16b1 : ((Int.tmod (IntKind.u64.wrap (((18446744073709551615 : Int) % (IntKind.u64.wrap (a1))) + 1)) (IntKind.u64.wrap (a1))) != 0) = true := bne_iff_ne.mpr c16
       (first | rw [c16b0] | (simp only [i64_w, i32_w]; rw [c16b0]) | skip)
       have H' := Aside0.mk H; clear H; go_wp2
       go_meet
       case rel => exact ⟨_, (decide (t471 < (IntKind.u64.wrap (-(Int.tmod (IntKind.u64.wrap (((18446744073709551615 : Int) % (IntKind.u64.wrap (a1))) + 1)) (IntKind.u64.wrap (a1))))))), tS_, H', ⟨by have := HK1.out; first | omega | exact Nat.le_refl _⟩, ⟨dB_ BK469⟩, ⟨dB_ BK470⟩, ⟨dL2_ HB GE469 GE470⟩⟩
     case rest =>
      clear HC12; (try clear c3); (try clear c3b0); (try clear c8); (try clear c8b0); (try clear c8b1); (try clear c16); (try clear hcz14_0 hfz14_0); obtain ⟨kq, x32_11, rfl, HA, HJ11, BK469, BK470, HB⟩ := hcut
      cases kq with
      | zero => exact absurd HA.out (by simp [hinterlandref01_Below.j1])
      | succ kj11 =>
       have H := HA.out; clear HA; simp only [hinterlandref01_Below.j1] at H
       by_cases c17 : x32_11 = true
       ·subst c17; rw [if_pos rfl] at H
        by_cases c18 : (IntKind.u64.wrap (a1)) = 0
        ·rw [if_pos c18] at H; exact absurd H (by simp)
        ·rw [if_neg c18] at H; have c18b0 : ((IntKind.u64.wrap (a1)) == 0) = false := beq_eq_false_iff_ne.mpr c18; have c18b1 : ((IntKind.u64.wrap (a1)) != 0) = true := bne_iff_ne.mpr c18; simp only [Option.some.injEq, Prod.mk.injEq] at H; obtain ⟨rfl, rfl⟩ := H
         try go_wp2
         replace BK469 := Aside0.mk (blk_drew BK469.out); replace BK470 := Aside0.mk (blk_drew BK470.out); replace HB := Aside0.mk (below_drew1 HB.out); refine start_ (n := 12) (S := fun w' => w'.cell? ⟨gb469, 0, none⟩ = some (.int .u64 a0_0)) (ds := []) ⟨bN 12 0⟩ (by kernel_rfl) rfl rfl ((blk_cell BK469.out 0).trans rfl) (fun hHeld => ?_); refine with_tabW hinterlandref01_Below.tab9 hinterlandref01_Below.bits9 (fun HT_ HW_ => ?_)
         generalize wc.drew = w19 at BK469 BK470 HB hHeld ⊢; refine pu_ (i := 0) (N := some 33) (bA 1 12) HT_ rfl ?_; refine pu_ (i := 1) (N := some 34) (bA 2 12) HT_ rfl ?_; refine pu_ (i := 2) (N := some 35) (bA 3 12) HT_ rfl ?_; refine pu_ (i := 3) (N := some 36) (bA 4 12) HT_ rfl ?_; refine pu_ (i := 4) (N := some 37) (bA 5 12) HT_ rfl ?_; refine pu_ (i := 6) (N := some 39) ⟨bN 12 95⟩ HT_ rfl ?_; refine pu_ (i := 7) (N := some 40) ⟨bN 12 223⟩ HT_ rfl ?_; refine pu_ (i := 10) (N := some 4) ⟨bN 12 1247⟩ HT_ rfl ?_; refine take_ (i := 5) (N := some 38) (v := ?_) (a' := ?_) ⟨bN 12 1279⟩ rfl rfl (take_ofW HT_.out HW_.out (by kernel_rfl)) (fun _ _ _ h => h) (Or.inl ⟨by rfl, ?_⟩) hHeld ?_ ?_; rotate_left; (intro w' s0; go_simp; with_reducible rfl); rotate_left; (simp only [Act.put, sI_, s0_, sS_, i64_w, i32_w]; rfl); refine pu_ (i := 8) (N := some 41) ⟨bN 12 1535⟩ HT_ rfl ?_; refine pu_ (i := 9) (N := some 42) (bA 11 12) HT_ rfl ?_; refine on_ (i := 11) (N := none) (bA 12 12) HT_ rfl (fun K hK => ?_); have hs20 : w19.cell? ⟨gb470, 0, none⟩ = some (.int .u64 x471000_1) := (blk_cell BK470.out 0).trans rfl; have hfs20 := blk_frozen BK470.out 0; have hns20_0 := NB469_470.out; have hms20_0 := NB470_469.out; refine skip_ (w1 := ?_) (by rfl) rfl ?_ ?_
         rotate_left
         ·go_simp
          rfl
         refine hK.out _ _ (((cell_far (p := ⟨gb470, _, none⟩) NB469_470.out _).trans (hHeld))) (fun hHeld => ?_); clear hK K; refine done_ (done_of HT_.out (by kernel_rfl)) ?_
         try go_wp2
         refine bodyPost_ret (results_tc rfl _ _ gb470 37 #[.int .u64 (IntKind.u64.wrap (a0_0 + (IntKind.u64.wrap (x8_1 * 11400714819323198485))))] (0, 0) _ rfl (bz_ BK470) Try.underlying37 rfl (by kernel_rfl)) rfl ?_; exact ⟨tE_, dL2_ HB GE469 GE470⟩
       ·replace c17 := Bool.eq_false_iff.mpr c17; subst c17; rw [if_neg (show ¬ (false = true) by decide)] at H; have H' := Aside0.mk H; clear H; go_wp2
        go_roundg kj11
        case measure => have := HK1.out; have := HJ11.out; omega
        case rel => exact ⟨(IntKind.u64.wrap (x8_1 + 1)), (x471000_1), tS_, H', ⟨by have := HK1.out; have := HJ11.out; omega⟩, ⟨dB_ BK469⟩, ⟨dB_ BK470⟩, ⟨dL2_ HB GE469 GE470⟩⟩

end Go.Proofs.Ytgnahbjpockdmab.Q
namespace Go.Proofs.Ytgnahbjpockdmab.Q
open Go.RowKit Go.Proofs.YtgnahbjpockdmabPrs Go.Proofs.YtgnahbjpockdmabOwn Go.Proofs.YtgnahbjpockdmabW.PrintWords Go.Proofs.YtgnahbjpockdmabW.PrintLast Go.Proofs.YtgnahbjpockdmabW.PrintMore
open List renaming setIfInBounds_toArray → sI_, set_cons_zero → s0_, set_cons_succ → sS_
attribute [local go_sem] max2_int min2_int max_two min_two max_three min_three max_four min_four   -- for this text's walks alone
set_option linter.unusedVariables false
set_option linter.unusedSimpArgs false

/-! ### hinterlandref01_Chance: function 33 -/
def hinterlandref01_Chance.f (k : Nat) (a0_0 : Int) (a1 : Int) (a2 : Int) : Option (Bool × Int) := if a2 < 1 then (some (false, a0_0)) else ((hinterlandref01_Below.f k a0_0 a2).bind fun bt474 => (some (decide (bt474.1 < a1), bt474.2)))
theorem hinterlandref01_Chance.mono : ∀ a0 a1 a2 k, LeO (hinterlandref01_Chance.f k a0 a1 a2) (hinterlandref01_Chance.f (k + 1) a0 a1 a2) := by
  intro a0 a1 a2 k
  unfold hinterlandref01_Chance.f
  repeat' first
      | (with_reducible first | apply hinterlandref01_Below.mono | exact LeO.refl _ | exact LeO.none _ | refine LeO.ite ?_ ?_ | refine LeO.bind ?_ (fun _ => ?_))
set_option maxHeartbeats 8000000 in
set_option maxRecDepth 100000 in
theorem hinterlandref01_Chance.calls (k : Nat) (a0_0 : Int) (a1 : Int) (a2 : Int) (r1 : Bool) (r2 : Int) (w : World) (h : hinterlandref01_Chance.f k a0_0 a1 a2 = some (r1, r2)) :
    Calls Try.prog 33 #[.agg #[.int .u64 a0_0], .int .i64 a1, .int .i64 a2] w fun e w' => e = .returned (.tuple #[.bool r1, .agg #[.int .u64 r2]]) ∧ Below w.heap.size w w' := by
 have hu37 := Try.underlying37; have HB := Aside0.mk (Below.refl w.heap.size w); have H : (if a2 < 1 then (some (false, a0_0)) else ((hinterlandref01_Below.f k a0_0 a2).bind fun bt474 => (some (decide (bt474.1 < a1), bt474.2)))) = some (r1, r2) := h; clear h
 by_cases c4 : a2 < 1
 ·rw [if_pos c4] at H; have c4b0 : decide (a2 < 1) = true := decide_eq_true c4; clear c4; simp only [Option.some.injEq, Prod.mk.injEq] at H; obtain ⟨rfl, rfl⟩ := H
  go_enter Try.func33, Try.ntmps33
  try go_wp2_with (first | ((with_reducible refine gate_dst (N := 3) rfl ?_); refine bx_ (N := 3) (cs := #[.int .u64 a0_0]) (t := 37) ?_; intro gb472 hg w5 hbox hb; have BK472 := Aside0.mk (hbox); have GW472 := Aside0.mk ((dS_ hg (dL_ HB) : w.heap.size ≤ gb472)); have GE472 := GW472; replace HB := Aside0.mk (below_step (dL_ HB) hb); clear hb hbox hg) | ((with_reducible refine gate_dst (N := 7) rfl ?_); refine bx_ (N := 7) (cs := #[.int .u64 0]) (t := 37) ?_; intro gb473 hg w6 hbox hb; have BK473 := Aside0.mk (hbox); have GW473 := Aside0.mk ((dS_ hg (dL1_ HB GE472) : w.heap.size ≤ gb473)); have GE473 := GW473; replace HB := Aside0.mk (below_step (dL1_ HB GE472) hb); have NB472_473 := nb_ hg BK472; have NB473_472 := nc_ hg BK472; replace BK472 := bk_ BK472 hb; clear hb hbox hg))
  replace BK472 := Aside0.mk (blk_drew BK472.out); replace BK473 := Aside0.mk (blk_drew BK473.out); replace HB := Aside0.mk (below_drew1 HB.out); refine start_ (n := 3) (S := fun w' => w'.cell? ⟨gb472, 0, none⟩ = some (.int .u64 a0_0)) (ds := []) #[false, false, false] (by kernel_rfl) rfl rfl ((blk_cell BK472.out 0).trans rfl) (fun hHeld => ?_); generalize w6.drew = w7 at BK472 BK473 HB hHeld ⊢; refine pure_ (i := 1) (N := some 6) (v := ?_) (a' := ?_) #[false, true, false] rfl rfl (by kernel_rfl) (fun _ _ _ h => h) (Or.inl ⟨by rfl, ?_⟩) ?_ ?_; rotate_left; (intro w'; go_simp; with_reducible rfl); rotate_left; (simp only [Act.put, sI_, s0_, sS_, i64_w, i32_w]; rfl); refine take_ (i := 0) (N := some 12) (v := ?_) (a' := ?_) #[true, true, false] rfl rfl (by kernel_rfl) (fun _ _ _ h => h) (Or.inl ⟨by rfl, ?_⟩) hHeld ?_ ?_; rotate_left; (intro w' s0; go_simp; with_reducible rfl); rotate_left; (simp only [Act.put, sI_, s0_, sS_, i64_w, i32_w]; rfl); refine one_ (i := 2) (N := none) #[true, true, true] rfl rfl (by kernel_rfl) (by decide) (fun K hK => ?_); have hs8 : w7.cell? ⟨gb473, 0, none⟩ = some (.int .u64 0) := (blk_cell BK473.out 0).trans rfl; have hfs8 := blk_frozen BK473.out 0; have hns8_0 := NB472_473.out; have hms8_0 := NB473_472.out; refine skip_ (w1 := ?_) (by rfl) rfl ?_ ?_
  rotate_left
  ·go_simp
   rfl
  refine hK.out _ _ (((cell_far (p := ⟨gb473, _, none⟩) NB472_473.out _).trans (hHeld))) (fun hHeld => ?_); clear hK K; refine done_ (by kernel_rfl) ?_
  try go_wp2
  refine bodyPost_ret (results_tc rfl _ _ gb473 37 #[.int .u64 a0_0] (0, 0) _ rfl (bz_ BK473) Try.underlying37 rfl (by kernel_rfl)) rfl ?_; exact ⟨tE_, dL2_ HB GE472 GE473⟩
 ·rw [if_neg c4] at H; have c4b0 : decide (a2 < 1) = false := decide_eq_false c4; clear c4; replace H := Option.bind_eq_some_iff.mp H; obtain ⟨⟨t474, t475⟩, A90, H⟩ := H; have A9 := Aside0.mk A90; clear A90; simp only [Option.some.injEq, Prod.mk.injEq] at H; obtain ⟨rfl, rfl⟩ := H
  go_enter Try.func33, Try.ntmps33
  try go_wp2_with (first | ((with_reducible refine gate_dst (N := 3) rfl ?_); refine bx_ (N := 3) (cs := #[.int .u64 a0_0]) (t := 37) ?_; intro gb472 hg w10 hbox hb; have BK472 := Aside0.mk (hbox); have GW472 := Aside0.mk ((dS_ hg (dL_ HB) : w.heap.size ≤ gb472)); have GE472 := GW472; replace HB := Aside0.mk (below_step (dL_ HB) hb); clear hb hbox hg) | ((with_reducible refine gate_dst (N := 7) rfl ?_); refine bx_ (N := 7) (cs := #[.int .u64 0]) (t := 37) ?_; intro gb473 hg w11 hbox hb; have BK473 := Aside0.mk (hbox); have GW473 := Aside0.mk ((dS_ hg (dL1_ HB GE472) : w.heap.size ≤ gb473)); have GE473 := GW473; replace HB := Aside0.mk (below_step (dL1_ HB GE472) hb); have NB472_473 := nb_ hg BK472; have NB473_472 := nc_ hg BK472; replace BK472 := bk_ BK472 hb; clear hb hbox hg; have hnb12 := NB472_473.out; have hnc12 := NB473_472.out; have hcz13_0 : w11.cell? ⟨gb472, 0, none⟩ = some (.int .u64 a0_0) := (blk_cell BK472.out 0).trans rfl; have hfz13_0 := blk_frozen BK472.out 0) | ((with_reducible refine gate_callee (f := 43) rfl ?_); refine gL_ (some 16) Try.func43 #[.agg #[.int .u64 a0_0], .int .i64 a2] ?_ rfl; (with_reducible refine (hinterlandref01_Below.calls k a0_0 a2 t474 t475 _ A9.out).mono ?_); rintro e w14 ⟨rfl, hb⟩; refine ⟨_, rfl, ?_⟩; replace BK472 := bk_ BK472 hb; replace BK473 := bk_ BK473 hb; replace HB := Aside0.mk (below_step (dL2_ HB GE472 GE473) hb)) | ((with_reducible refine gate_dst (N := 9) rfl ?_); refine bx_ (N := 9) (cs := #[.int .u64 0]) (t := 37) ?_; intro gb476 hg w15 hbox hb; have BK476 := Aside0.mk (hbox); have GW476 := Aside0.mk ((dS_ hg (dL2_ HB GE472 GE473) : w.heap.size ≤ gb476)); have GE476 := GW476; replace HB := Aside0.mk (below_step (dL2_ HB GE472 GE473) hb); have NB472_476 := nb_ hg BK472; have NB476_472 := nc_ hg BK472; replace BK472 := bk_ BK472 hb; have NB473_476 := nb_ hg BK473; have NB476_473 := nc_ hg BK473; replace BK473 := bk_ BK473 hb; clear hb hbox hg; have hnb16 := NB476_472.out; have hnc16 := NB472_476.out; have hnb17 := NB476_473.out; have hnc17 := NB473_476.out; have hcz18_0 : w15.cell? ⟨gb476, 0, none⟩ = some (.int .u64 0) := (blk_cell BK476.out 0).trans rfl; have hfz18_0 := blk_frozen BK476.out 0))
  have n0_ : Aside0 ((w15.setCell ⟨gb476, 0, none⟩ (.int .u64 t475)).heap[gb472]? = some (.cells #[.int .u64 a0_0] 37 (0, 0))) := ⟨bz_ BK472⟩; have n1_ : Aside0 ((w15.setCell ⟨gb476, 0, none⟩ (.int .u64 t475)).heap[gb473]? = some (.cells #[.int .u64 0] 37 (0, 0))) := ⟨bz_ BK473⟩; have n2_ : Aside0 ((w15.setCell ⟨gb476, 0, none⟩ (.int .u64 t475)).heap[gb476]? = some (.cells #[.int .u64 t475] 37 (0, 0))) := ⟨bz_ BK476⟩; have n3_ : Aside0 (Below w.heap.size w (w15.setCell ⟨gb476, 0, none⟩ (.int .u64 t475))) := ⟨dL3_ HB GE472 GE473 GE476⟩; (try clear BK472); (try clear BK473); (try clear BK476); (try clear HB); generalize (w15.setCell ⟨gb476, 0, none⟩ (.int .u64 t475)) = w19 at n0_ n1_ n2_ n3_ ⊢; have BK472 := n0_; have BK473 := n1_; have BK476 := n2_; have HB := n3_; clear n0_ n1_ n2_ n3_; replace BK472 := Aside0.mk (blk_drew BK472.out); replace BK473 := Aside0.mk (blk_drew BK473.out); replace BK476 := Aside0.mk (blk_drew BK476.out); replace HB := Aside0.mk (below_drew1 HB.out); refine start_ (n := 6) (S := fun w' => w'.cell? ⟨gb476, 0, none⟩ = some (.int .u64 t475)) (ds := []) #[false, false, false, false, false, false] (by kernel_rfl) rfl rfl ((blk_cell BK476.out 0).trans rfl) (fun hHeld => ?_); generalize w19.drew = w20 at BK472 BK473 BK476 HB hHeld ⊢; refine pure_ (i := 0) (N := some 19) (v := ?_) (a' := ?_) (bA 1 6) rfl rfl (by kernel_rfl) (fun _ _ _ h => h) (Or.inl ⟨by rfl, ?_⟩) ?_ ?_; rotate_left; (intro w'; go_simp; with_reducible rfl); rotate_left; (simp only [Act.put, sI_, s0_, sS_, i64_w, i32_w]; rfl); refine pure_ (i := 1) (N := some 20) (v := ?_) (a' := ?_) (bA 2 6) rfl rfl (by kernel_rfl) (fun _ _ _ h => h) (Or.inl ⟨by rfl, ?_⟩) ?_ ?_; rotate_left; (intro w'; go_simp; with_reducible rfl); rotate_left; (simp only [Act.put, sI_, s0_, sS_, i64_w, i32_w]; rfl); refine pure_ (i := 2) (N := some 21) (v := ?_) (a' := ?_) (bA 3 6) rfl rfl (by kernel_rfl) (fun _ _ _ h => h) (Or.inl ⟨by rfl, ?_⟩) ?_ ?_; rotate_left; (intro w'; go_simp; with_reducible rfl); rotate_left; (simp only [Act.put, sI_, s0_, sS_, i64_w, i32_w]; rfl); refine pure_ (i := 4) (N := some 6) (v := ?_) (a' := ?_) #[true, true, true, false, true, false] rfl rfl (by kernel_rfl) (fun _ _ _ h => h) (Or.inl ⟨by rfl, ?_⟩) ?_ ?_; rotate_left; (intro w'; go_simp; with_reducible rfl); rotate_left; (simp only [Act.put, sI_, s0_, sS_, i64_w, i32_w]; rfl); refine take_ (i := 3) (N := some 22) (v := ?_) (a' := ?_) (bA 5 6) rfl rfl (by kernel_rfl) (fun _ _ _ h => h) (Or.inl ⟨by rfl, ?_⟩) hHeld ?_ ?_; rotate_left; (intro w' s0; go_simp; with_reducible rfl); rotate_left; (simp only [Act.put, sI_, s0_, sS_, i64_w, i32_w]; rfl)
  refine one_ (i := 5) (N := none) (bA 6 6) rfl rfl (by kernel_rfl) (by decide) (fun K hK => ?_); have hs21 : w20.cell? ⟨gb473, 0, none⟩ = some (.int .u64 0) := (blk_cell BK473.out 0).trans rfl; have hfs21 := blk_frozen BK473.out 0; have hns21_0 := NB472_473.out; have hns21_2 := NB476_473.out; have hms21_0 := NB473_472.out; have hms21_2 := NB473_476.out; refine skip_ (w1 := ?_) (by rfl) rfl ?_ ?_
  rotate_left
  ·go_simp
   rfl
  refine hK.out _ _ (((cell_far (p := ⟨gb473, _, none⟩) NB476_473.out _).trans (hHeld))) (fun hHeld => ?_); clear hK K; refine done_ (by kernel_rfl) ?_
  try go_wp2
  refine bodyPost_ret (results_tc rfl _ _ gb473 37 #[.int .u64 t475] (0, 0) _ rfl (bz_ BK473) Try.underlying37 rfl (by kernel_rfl)) rfl ?_; exact ⟨tE_, dL3_ HB GE472 GE473 GE476⟩

end Go.Proofs.Ytgnahbjpockdmab.Q
