-- PRINTED by print.py out of the translation. Not trusted: Lean checks it.
import Derived.Test.YtnkgelnkoljgdaaPrs
import Derived.Test.YtnkgelnkoljgdaaQ0
import Derived.Test.YtnkgelnkoljgdaaQ26
namespace Go.Proofs.Ytnkgelnkoljgdaa.Q
open Go.RowKit Go.Proofs.YtnkgelnkoljgdaaPrs Go.Proofs.YtnkgelnkoljgdaaOwn Go.Proofs.YtnkgelnkoljgdaaW.PrintWords Go.Proofs.YtnkgelnkoljgdaaW.PrintLast Go.Proofs.YtnkgelnkoljgdaaW.PrintMore
open List renaming setIfInBounds_toArray → sI_, set_cons_zero → s0_, set_cons_succ → sS_
attribute [local go_sem] max2_int min2_int max_two min_two max_three min_three max_four min_four   -- for this text's walks alone
set_option linter.unusedVariables false
set_option linter.unusedSimpArgs false

/-! ### hinterlandref01_Below: function 46 -/
mutual
def hinterlandref01_Below.l0 : Nat → Int → Int → Int → Int → Option (Int × Int)
  | 0, _, _, _, _ => none
  | k + 1, x6, x7, x8, x349000 => (hinterlandref01_At.f x349000 x8).bind fun t350 => (if x7 = 0 then (hinterlandref01_Below.j1 k x6 x7 x8 t350 true x349000) else (hinterlandref01_Below.j1 k x6 x7 x8 t350 (decide (t350 < (IntKind.u64.wrap (-x7)))) x349000))
def hinterlandref01_Below.j1 : Nat → Int → Int → Int → Int → Bool → Int → Option (Int × Int)
  | 0, _, _, _, _, _, _ => none
  | k + 1, x6, x7, x8, x9, x32, x349000 => if x32 = true then (if x6 = 0 then (none) else (some (wrap64 (Int.tmod x9 x6), IntKind.u64.wrap (x349000 + (IntKind.u64.wrap (x8 * 11400714819323198485)))))) else (hinterlandref01_Below.l0 k x6 x7 (IntKind.u64.wrap (x8 + 1)) x349000)
end
def hinterlandref01_Below.f (k : Nat) (a0_0 : Int) (a1 : Int) : Option (Int × Int) := if a1 < 1 then (some (0, a0_0)) else (if (IntKind.u64.wrap (a1)) = 0 then (none) else (hinterlandref01_Below.l0 k (IntKind.u64.wrap (a1)) (Int.tmod (IntKind.u64.wrap (((18446744073709551615 : Int) % (IntKind.u64.wrap (a1))) + 1)) (IntKind.u64.wrap (a1))) 1 a0_0))
theorem hinterlandref01_Below.mono_l : ∀ k, (∀ y0 y1 y2 y3, LeO (hinterlandref01_Below.l0 k y0 y1 y2 y3) (hinterlandref01_Below.l0 (k + 1) y0 y1 y2 y3)) ∧ (∀ y0 y1 y2 y3 y4 y5, LeO (hinterlandref01_Below.j1 k y0 y1 y2 y3 y4 y5) (hinterlandref01_Below.j1 (k + 1) y0 y1 y2 y3 y4 y5))
  | 0 => ⟨fun _ _ _ _ r h => by simp [hinterlandref01_Below.l0] at h, fun _ _ _ _ _ _ r h => by simp [hinterlandref01_Below.j1] at h⟩
  | k + 1 => by
    obtain ⟨ih0, ih1⟩ := hinterlandref01_Below.mono_l k; refine ⟨?_, ?_⟩
    · intro y0 y1 y2 y3
      unfold hinterlandref01_Below.l0
      repeat' first
      | (with_reducible first | apply ih0 | apply ih1 | exact LeO.refl _ | exact LeO.none _ | refine LeO.ite ?_ ?_ | refine LeO.bind ?_ (fun _ => ?_))
    · intro y0 y1 y2 y3 y4 y5
      unfold hinterlandref01_Below.j1
      repeat' first
      | (with_reducible first | apply ih0 | apply ih1 | exact LeO.refl _ | exact LeO.none _ | refine LeO.ite ?_ ?_ | refine LeO.bind ?_ (fun _ => ?_))
theorem hinterlandref01_Below.mono : ∀ a0 a1 k, LeO (hinterlandref01_Below.f k a0 a1) (hinterlandref01_Below.f (k + 1) a0 a1) := by
  intro a0 a1 k; obtain ⟨ih0, ih1⟩ := hinterlandref01_Below.mono_l k
  unfold hinterlandref01_Below.f
  repeat' first
      | (with_reducible first | apply ih0 | apply ih1 | exact LeO.refl _ | exact LeO.none _ | refine LeO.ite ?_ ?_ | refine LeO.bind ?_ (fun _ => ?_))
def hinterlandref01_Below.T9 : Bool × List (List Nat × List Nat) := (true, [([], []), ([], []), ([0, 1], [0, 1]), ([2], [2]), ([], []), ([4], [4]), ([], []), ([6], [6]), ([5, 7], [5, 7]), ([8], [8]), ([3, 0, 1, 2, 3], [3]), ([9, 10, 0, 1, 2, 3, 4, 5, 6, 7, 8, 9, 10], [9])])
def hinterlandref01_Below.B9 : List Nat := [0, 0, 3, 7, 0, 16, 0, 64, 240, 496, 15, 2047]
theorem hinterlandref01_Below.tab9 : rtab .any (opsOf Try.f46 9) = hinterlandref01_Below.T9 := by kernel_rfl
theorem hinterlandref01_Below.bits9 : waitsOk hinterlandref01_Below.T9.2 hinterlandref01_Below.B9 = true := by kernel_rfl
set_option maxHeartbeats 8000000 in
set_option maxRecDepth 100000 in
theorem hinterlandref01_Below.calls (k : Nat) (a0_0 : Int) (a1 : Int) (r1 : Int) (r2 : Int) (w : World) (h : hinterlandref01_Below.f k a0_0 a1 = some (r1, r2)) :
    Calls Try.prog 46 #[.agg #[.int .u64 a0_0], .int .i64 a1] w fun e w' => e = .returned (.tuple #[.int .i64 r1, .agg #[.int .u64 r2]]) ∧ Below w.heap.size w w' := by
 have hu51 := Try.underlying51; have HB := Aside0.mk (Below.refl w.heap.size w); have H : (if a1 < 1 then (some (0, a0_0)) else (if (IntKind.u64.wrap (a1)) = 0 then (none) else (hinterlandref01_Below.l0 k (IntKind.u64.wrap (a1)) (Int.tmod (IntKind.u64.wrap (((18446744073709551615 : Int) % (IntKind.u64.wrap (a1))) + 1)) (IntKind.u64.wrap (a1))) 1 a0_0))) = some (r1, r2) := h; clear h
 by_cases c3 : a1 < 1
 ·rw [if_pos c3] at H; have c3b0 : decide (a1 < 1) = true := decide_eq_true c3; clear c3; simp only [Option.some.injEq, Prod.mk.injEq] at H; obtain ⟨rfl, rfl⟩ := H
  go_enter Try.func46, Try.ntmps46
  try go_wp2_with (first | ((with_reducible refine gate_dst (N := 2) rfl ?_); refine bx_ (N := 2) (cs := #[.int .u64 a0_0]) (t := 51) ?_; intro gb348 hg w4 hbox hb; have BK348 := Aside0.mk (hbox); have GW348 := Aside0.mk ((dS_ hg (dL_ HB) : w.heap.size ≤ gb348)); have GE348 := GW348; replace HB := Aside0.mk (below_step (dL_ HB) hb); clear hb hbox hg) | ((with_reducible refine gate_dst (N := 5) rfl ?_); refine bx_ (N := 5) (cs := #[.int .u64 0]) (t := 51) ?_; intro gb349 hg w5 hbox hb; have BK349 := Aside0.mk (hbox); have GW349 := Aside0.mk ((dS_ hg (dL1_ HB GE348) : w.heap.size ≤ gb349)); have GE349 := GW349; replace HB := Aside0.mk (below_step (dL1_ HB GE348) hb); have NB348_349 := nb_ hg BK348; have NB349_348 := nc_ hg BK348; replace BK348 := bk_ BK348 hb; clear hb hbox hg))
  replace BK348 := Aside0.mk (blk_drew BK348.out); replace BK349 := Aside0.mk (blk_drew BK349.out); replace HB := Aside0.mk (below_drew1 HB.out); refine start_ (n := 3) (S := fun w' => w'.cell? ⟨gb348, 0, none⟩ = some (.int .u64 a0_0)) (ds := []) #[false, false, false] (by kernel_rfl) rfl rfl ((blk_cell BK348.out 0).trans rfl) (fun hHeld => ?_); generalize w5.drew = w6 at BK348 BK349 HB hHeld ⊢; refine pure_ (i := 1) (N := some 4) (v := ?_) (a' := ?_) #[false, true, false] rfl rfl (by kernel_rfl) (fun _ _ _ h => h) (Or.inl ⟨by rfl, ?_⟩) ?_ ?_; rotate_left; (intro w'; go_simp; with_reducible rfl); rotate_left; (simp only [Act.put, sI_, s0_, sS_, i64_w, i32_w]; rfl); refine take_ (i := 0) (N := some 12) (v := ?_) (a' := ?_) #[true, true, false] rfl rfl (by kernel_rfl) (fun _ _ _ h => h) (Or.inl ⟨by rfl, ?_⟩) hHeld ?_ ?_; rotate_left; (intro w' s0; go_simp; with_reducible rfl); rotate_left; (simp only [Act.put, sI_, s0_, sS_, i64_w, i32_w]; rfl); refine one_ (i := 2) (N := none) #[true, true, true] rfl rfl (by kernel_rfl) (by decide) (fun K hK => ?_); have hs7 : w6.cell? ⟨gb349, 0, none⟩ = some (.int .u64 0) := (blk_cell BK349.out 0).trans rfl; have hfs7 := blk_frozen BK349.out 0; have hns7_0 := NB348_349.out; have hms7_0 := NB349_348.out; refine skip_ (w1 := ?_) (by rfl) rfl ?_ ?_
  rotate_left
  ·go_simp
   rfl
  refine hK.out _ _ (((cell_far (p := ⟨gb349, _, none⟩) NB348_349.out _).trans (hHeld))) (fun hHeld => ?_); clear hK K; refine done_ (by kernel_rfl) ?_
  try go_wp2
  refine bodyPost_ret (results_tc rfl _ _ gb349 51 #[.int .u64 a0_0] (0, 0) _ rfl (bz_ BK349) Try.underlying51 rfl (by kernel_rfl)) rfl ?_; exact ⟨tE_, dL2_ HB GE348 GE349⟩
 ·rw [if_neg c3] at H; have c3b0 : decide (a1 < 1) = false := decide_eq_false c3; clear c3
  by_cases c8 : (IntKind.u64.wrap (a1)) = 0
  ·rw [if_pos c8] at H; exact absurd H (by simp)
  ·rw [if_neg c8] at H; have c8b0 : ((IntKind.u64.wrap (a1)) == 0) = false := beq_eq_false_iff_ne.mpr c8; have c8b1 : ((IntKind.u64.wrap (a1)) != 0) = true := bne_iff_ne.mpr c8; have H' := Aside0.mk H; clear H
   go_enter Try.func46, Try.ntmps46
   go_wp2_with (first | ((with_reducible refine gate_dst (N := 2) rfl ?_); refine bx_ (N := 2) (cs := #[.int .u64 a0_0]) (t := 51) ?_; intro gb348 hg w9 hbox hb; have BK348 := Aside0.mk (hbox); have GW348 := Aside0.mk ((dS_ hg (dL_ HB) : w.heap.size ≤ gb348)); have GE348 := GW348; replace HB := Aside0.mk (below_step (dL_ HB) hb); clear hb hbox hg) | ((with_reducible refine gate_dst (N := 5) rfl ?_); refine bx_ (N := 5) (cs := #[.int .u64 0]) (t := 51) ?_; intro gb349 hg w10 hbox hb; have BK349 := Aside0.mk (hbox); have GW349 := Aside0.mk ((dS_ hg (dL1_ HB GE348) : w.heap.size ≤ gb349)); have GE349 := GW349; replace HB := Aside0.mk (below_step (dL1_ HB GE348) hb); have NB348_349 := nb_ hg BK348; have NB349_348 := nc_ hg BK348; replace BK348 := bk_ BK348 hb; clear hb hbox hg))
   go_loopg [8] k (fun kq v8 w' => ∃ (x8_1 : Int) (x350000_1 : Int), v8 = .int .u64 x8_1 ∧ Aside0 (hinterlandref01_Below.l0 kq (IntKind.u64.wrap (a1)) (Int.tmod (IntKind.u64.wrap (((18446744073709551615 : Int) % (IntKind.u64.wrap (a1))) + 1)) (IntKind.u64.wrap (a1))) x8_1 a0_0 = some (r1, r2)) ∧ Aside0 (kq ≤ k) ∧ Aside0 (w'.heap[gb348]? = some (.cells #[.int .u64 a0_0] 51 (0, 0))) ∧ Aside0 (w'.heap[gb349]? = some (.cells #[.int .u64 x350000_1] 51 (0, 0))) ∧ Aside0 (Below w.heap.size w w'))
   case atStart => exact ⟨(1), (0), tS_, H', ⟨Nat.le_refl _⟩, ⟨dB_ BK348⟩, ⟨dB_ BK349⟩, ⟨dL2_ HB GE348 GE349⟩⟩
   case round =>
    clear H'; (try clear c3); (try clear c3b0); (try clear c8); (try clear c8b0); (try clear c8b1); obtain ⟨x8_1, x350000_1, rfl, HA, HK1, BK348, BK349, HB⟩ := hrel
    cases gk with
    | zero => exact absurd HA.out (by simp [hinterlandref01_Below.l0])
    | succ k1 =>
     have H := HA.out; clear HA; simp only [hinterlandref01_Below.l0] at H; replace H := Option.bind_eq_some_iff.mp H; obtain ⟨t350, A110, H⟩ := H; have A11 := Aside0.mk A110; clear A110; have HC12 := Aside0.mk H; clear H; have hnb13 := NB348_349.out; have hnc13 := NB349_348.out; have z14a : wr.cell? ⟨gb348, 0, none⟩ = some (.int .u64 a0_0) := (blk_cell BK348.out 0).trans rfl; have y14a := blk_frozen BK348.out 0
     go_upto_region 8 with (first | ((with_reducible refine gate_callee (f := 51) rfl ?_); refine gL_ (some 24) Try.func51 #[.agg #[.int .u64 a0_0], .int .u64 x8_1] ?_ rfl; (with_reducible refine (hinterlandref01_At.calls a0_0 x8_1 t350 _ A11.out).mono ?_); rintro e w15 ⟨rfl, hb⟩; refine ⟨_, rfl, ?_⟩; replace BK348 := bk_ BK348 hb; replace BK349 := bk_ BK349 hb; replace HB := Aside0.mk (below_step (dL2_ HB GE348 GE349) hb)))
     (try simp only [Act.put, sI_, s0_, sS_])
     go_cut [32] (fun v32 wc => ∃ (kq : Nat) (x32_11 : Bool), v32 = .bool x32_11 ∧ Aside0 (hinterlandref01_Below.j1 kq (IntKind.u64.wrap (a1)) (Int.tmod (IntKind.u64.wrap (((18446744073709551615 : Int) % (IntKind.u64.wrap (a1))) + 1)) (IntKind.u64.wrap (a1))) x8_1 t350 x32_11 a0_0 = some (r1, r2)) ∧ Aside0 (kq ≤ k1) ∧ Aside0 (wc.heap[gb348]? = some (.cells #[.int .u64 a0_0] 51 (0, 0))) ∧ Aside0 (wc.heap[gb349]? = some (.cells #[.int .u64 x350000_1] 51 (0, 0))) ∧ Aside0 (Below w.heap.size w wc))
     case first =>
      have H := HC12.out; clear HC12
      by_cases c16 : (Int.tmod (IntKind.u64.wrap (((18446744073709551615 : Int) % (IntKind.u64.wrap (a1))) + 1)) (IntKind.u64.wrap (a1))) = 0
      ·rw [if_pos c16] at H; have c16b0 : ((Int.tmod (IntKind.u64.wrap (((18446744073709551615 : Int) % (IntKind.u64.wrap (a1))) + 1)) (IntKind.u64.wrap (a1))) == 0) = true := beq_iff_eq.mpr c16; have c16b1 : ((Int.tmod (IntKind.u64.wrap (((18446744073709551615 : Int) % (IntKind.u64.wrap (a1))) + 1)) (IntKind.u64.wrap (a1))) != 0) = false := bne_eq_false_iff_eq.mpr c16; clear c16
       (first | rw [c16b0] | (simp only [i64_w, i32_w]; rw [c16b0]) | skip)
       have H' := Aside0.mk H; clear H; go_wp2
       go_meet
       case rel => exact ⟨_, (true), tS_, H', ⟨by have := HK1.out; first | omega | exact Nat.le_refl _⟩, ⟨dB_ BK348⟩, ⟨dB_ BK349⟩, ⟨dL2_ HB GE348 GE349⟩⟩
      ·rw [if_neg c16] at H; have c16b0 : ((Int.tmod (IntKind.u64.wrap (((18446744073709551615 : Int) % (IntKind.u64.wrap (a1))) + 1)) (IntKind.u64.wrap (a1))) == 0) = false := beq_eq_false_iff_ne.mpr c16; have c16b1 : ((Int.tmod (IntKind.u64.wrap (((18446744073709551615 : Int) % (IntKind.u64.wrap (a1))) + 1)) (IntKind.u64.wrap (a1))) != 0) = true := bne_iff_ne.mpr c16
       (first | rw [c16b0] | (simp only [i64_w, i32_w]; rw [c16b0]) | skip)
       have H' := Aside0.mk H; clear H; go_wp2
       go_meet
       case rel => exact ⟨_, (decide (t350 < (IntKind.u64.wrap (-(Int.tmod (IntKind.u64.wrap (((18446744073709551615 : Int) % (IntKind.u64.wrap (a1))) + 1)) (IntKind.u64.wrap (a1))))))), tS_, H', ⟨by have := HK1.out; first | omega | exact Nat.le_refl _⟩, ⟨dB_ BK348⟩, ⟨dB_ BK349⟩, ⟨dL2_ HB GE348 GE349⟩⟩
     case rest =>
      clear HC12; (try clear c3); (try clear c3b0); (try clear c8); (try clear c8b0); (try clear c8b1); (try clear c16); (try clear z14a y14a); obtain ⟨kq, x32_11, rfl, HA, HJ11, BK348, BK349, HB⟩ := hcut
      cases kq with
      | zero => exact absurd HA.out (by simp [hinterlandref01_Below.j1])
      | succ kj11 =>
       have H := HA.out; clear HA; simp only [hinterlandref01_Below.j1] at H
       by_cases c17 : x32_11 = true
       ·subst c17; rw [if_pos rfl] at H
        by_cases c18 : (IntKind.u64.wrap (a1)) = 0
        ·rw [if_pos c18] at H; exact absurd H (by simp)
        ·rw [if_neg c18] at H; have c18b0 : ((IntKind.u64.wrap (a1)) == 0) = false := beq_eq_false_iff_ne.mpr c18; have c18b1 : ((IntKind.u64.wrap (a1)) != 0) = true := bne_iff_ne.mpr c18; simp only [Option.some.injEq, Prod.mk.injEq] at H; obtain ⟨rfl, rfl⟩ := H
         try go_wp2
         replace BK348 := Aside0.mk (blk_drew BK348.out); replace BK349 := Aside0.mk (blk_drew BK349.out); replace HB := Aside0.mk (below_drew1 HB.out); refine start_ (n := 12) (S := fun w' => w'.cell? ⟨gb348, 0, none⟩ = some (.int .u64 a0_0)) (ds := []) ⟨bN 12 0⟩ (by kernel_rfl) rfl rfl ((blk_cell BK348.out 0).trans rfl) (fun hHeld => ?_); refine with_tabW hinterlandref01_Below.tab9 hinterlandref01_Below.bits9 (fun HT_ HW_ => ?_)
         generalize wc.drew = w19 at BK348 BK349 HB hHeld ⊢; refine pu_ (i := 0) (N := some 33) (bA 1 12) HT_ rfl ?_; refine pu_ (i := 1) (N := some 34) (bA 2 12) HT_ rfl ?_; refine pu_ (i := 2) (N := some 35) (bA 3 12) HT_ rfl ?_; refine pu_ (i := 3) (N := some 36) (bA 4 12) HT_ rfl ?_; refine pu_ (i := 4) (N := some 37) (bA 5 12) HT_ rfl ?_; refine pu_ (i := 6) (N := some 39) ⟨bN 12 95⟩ HT_ rfl ?_; refine pu_ (i := 7) (N := some 40) ⟨bN 12 223⟩ HT_ rfl ?_; refine pu_ (i := 10) (N := some 4) ⟨bN 12 1247⟩ HT_ rfl ?_; refine take_ (i := 5) (N := some 38) (v := ?_) (a' := ?_) ⟨bN 12 1279⟩ rfl rfl (take_ofW HT_.out HW_.out (by kernel_rfl)) (fun _ _ _ h => h) (Or.inl ⟨by rfl, ?_⟩) hHeld ?_ ?_; rotate_left; (intro w' s0; go_simp; with_reducible rfl); rotate_left; (simp only [Act.put, sI_, s0_, sS_, i64_w, i32_w]; rfl); refine pu_ (i := 8) (N := some 41) ⟨bN 12 1535⟩ HT_ rfl ?_; refine pu_ (i := 9) (N := some 42) (bA 11 12) HT_ rfl ?_; refine on_ (i := 11) (N := none) (bA 12 12) HT_ rfl (fun K hK => ?_); have hs20 : w19.cell? ⟨gb349, 0, none⟩ = some (.int .u64 x350000_1) := (blk_cell BK349.out 0).trans rfl; have hfs20 := blk_frozen BK349.out 0; have hns20_0 := NB348_349.out; have hms20_0 := NB349_348.out; refine skip_ (w1 := ?_) (by rfl) rfl ?_ ?_
         rotate_left
         ·go_simp
          rfl
         refine hK.out _ _ (((cell_far (p := ⟨gb349, _, none⟩) NB348_349.out _).trans (hHeld))) (fun hHeld => ?_); clear hK K; refine done_ (done_of HT_.out (by kernel_rfl)) ?_
         try go_wp2
         refine bodyPost_ret (results_tc rfl _ _ gb349 51 #[.int .u64 (IntKind.u64.wrap (a0_0 + (IntKind.u64.wrap (x8_1 * 11400714819323198485))))] (0, 0) _ rfl (bz_ BK349) Try.underlying51 rfl (by kernel_rfl)) rfl ?_; exact ⟨tE_, dL2_ HB GE348 GE349⟩
       ·replace c17 := Bool.eq_false_iff.mpr c17; subst c17; rw [if_neg (show ¬ (false = true) by decide)] at H; have H' := Aside0.mk H; clear H; go_wp2
        go_roundg kj11
        case measure => have := HK1.out; have := HJ11.out; omega
        case rel => exact ⟨(IntKind.u64.wrap (x8_1 + 1)), (x350000_1), tS_, H', ⟨by have := HK1.out; have := HJ11.out; omega⟩, ⟨dB_ BK348⟩, ⟨dB_ BK349⟩, ⟨dL2_ HB GE348 GE349⟩⟩

end Go.Proofs.Ytnkgelnkoljgdaa.Q
