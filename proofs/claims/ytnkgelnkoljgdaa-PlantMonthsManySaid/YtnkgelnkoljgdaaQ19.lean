-- PRINTED by print.py out of the translation. Not trusted: Lean checks it.
import Derived.Test.YtnkgelnkoljgdaaPrs
import Derived.Test.YtnkgelnkoljgdaaQ0
import Derived.Test.YtnkgelnkoljgdaaQ11
namespace Go.Proofs.Ytnkgelnkoljgdaa.Q
open Go.RowKit Go.Proofs.YtnkgelnkoljgdaaPrs Go.Proofs.YtnkgelnkoljgdaaOwn Go.Proofs.YtnkgelnkoljgdaaW.PrintWords Go.Proofs.YtnkgelnkoljgdaaW.PrintLast Go.Proofs.YtnkgelnkoljgdaaW.PrintMore
open List renaming setIfInBounds_toArray → sI_, set_cons_zero → s0_, set_cons_succ → sS_
attribute [local go_sem] max2_int min2_int max_two min_two max_three min_three max_four min_four   -- for this text's walks alone
set_option linter.unusedVariables false
set_option linter.unusedSimpArgs false

/-! ### roll_Below: function 44 -/
def roll_Below.l0 : Nat → Int → Int → Int → Option (Int × Int)
  | 0, _, _, _ => none
  | k + 1, x6, x7, x257000 => (roll_Next.f x257000).bind fun bt258 => (if bt258.1 ≤ (Go.bits .xor .u64 IntKind.u64.max x7) then (if x6 = 0 then (none) else (some (wrap64 (Int.tmod bt258.1 x6), bt258.2))) else (roll_Below.l0 k x6 x7 bt258.2))
def roll_Below.f (k : Nat) (a0_0 : Int) (a1 : Int) : Option (Int × Int) := if a1 < 1 then (some (0, a0_0)) else (if (IntKind.u64.wrap (a1)) = 0 then (none) else (roll_Below.l0 k (IntKind.u64.wrap (a1)) (Int.tmod (IntKind.u64.wrap (-(IntKind.u64.wrap (a1)))) (IntKind.u64.wrap (a1))) a0_0))
theorem roll_Below.mono_l : ∀ k, (∀ y0 y1 y2, LeO (roll_Below.l0 k y0 y1 y2) (roll_Below.l0 (k + 1) y0 y1 y2))
  | 0 => fun _ _ _ r h => by simp [roll_Below.l0] at h
  | k + 1 => by
    have ih0 := roll_Below.mono_l k
    · intro y0 y1 y2
      unfold roll_Below.l0
      repeat' first
      | (with_reducible first | apply ih0 | exact LeO.refl _ | exact LeO.none _ | refine LeO.ite ?_ ?_ | refine LeO.bind ?_ (fun _ => ?_))
theorem roll_Below.mono : ∀ a0 a1 k, LeO (roll_Below.f k a0 a1) (roll_Below.f (k + 1) a0 a1) := by
  intro a0 a1 k; have ih0 := roll_Below.mono_l k
  unfold roll_Below.f
  repeat' first
      | (with_reducible first | apply ih0 | exact LeO.refl _ | exact LeO.none _ | refine LeO.ite ?_ ?_ | refine LeO.bind ?_ (fun _ => ?_))
set_option maxHeartbeats 8000000 in
set_option maxRecDepth 100000 in
theorem roll_Below.calls (k : Nat) (a0_0 : Int) (a1 : Int) (r1 : Int) (r2 : Int) (w : World) (h : roll_Below.f k a0_0 a1 = some (r1, r2)) :
    Calls Try.prog 44 #[.agg #[.int .u64 a0_0], .int .i64 a1] w fun e w' => e = .returned (.tuple #[.int .i64 r1, .agg #[.int .u64 r2]]) ∧ Below w.heap.size w w' := by
 have hu51 := Try.underlying51; have HB := Aside0.mk (Below.refl w.heap.size w); have H : (if a1 < 1 then (some (0, a0_0)) else (if (IntKind.u64.wrap (a1)) = 0 then (none) else (roll_Below.l0 k (IntKind.u64.wrap (a1)) (Int.tmod (IntKind.u64.wrap (-(IntKind.u64.wrap (a1)))) (IntKind.u64.wrap (a1))) a0_0))) = some (r1, r2) := h; clear h
 by_cases c3 : a1 < 1
 ·rw [if_pos c3] at H; have c3b0 : decide (a1 < 1) = true := decide_eq_true c3; clear c3; simp only [Option.some.injEq, Prod.mk.injEq] at H; obtain ⟨rfl, rfl⟩ := H
  go_enter Try.func44, Try.ntmps44
  try go_wp2_with (first | ((with_reducible refine gate_dst (N := 2) rfl ?_); refine bx_ (N := 2) (cs := #[.int .u64 a0_0]) (t := 51) ?_; intro gb256 hg w4 hbox hb; have BK256 := Aside0.mk (hbox); have GW256 := Aside0.mk ((dS_ hg (dL_ HB) : w.heap.size ≤ gb256)); have GE256 := GW256; replace HB := Aside0.mk (below_step (dL_ HB) hb); clear hb hbox hg) | ((with_reducible refine gate_dst (N := 5) rfl ?_); refine bx_ (N := 5) (cs := #[.int .u64 0]) (t := 51) ?_; intro gb257 hg w5 hbox hb; have BK257 := Aside0.mk (hbox); have GW257 := Aside0.mk ((dS_ hg (dL1_ HB GE256) : w.heap.size ≤ gb257)); have GE257 := GW257; replace HB := Aside0.mk (below_step (dL1_ HB GE256) hb); have NB256_257 := nb_ hg BK256; have NB257_256 := nc_ hg BK256; replace BK256 := bk_ BK256 hb; clear hb hbox hg))
  replace BK256 := Aside0.mk (blk_drew BK256.out); replace BK257 := Aside0.mk (blk_drew BK257.out); replace HB := Aside0.mk (below_drew1 HB.out); refine start_ (n := 3) (S := fun w' => w'.cell? ⟨gb256, 0, none⟩ = some (.int .u64 a0_0)) (ds := []) #[false, false, false] (by kernel_rfl) rfl rfl ((blk_cell BK256.out 0).trans rfl) (fun hHeld => ?_); generalize w5.drew = w6 at BK256 BK257 HB hHeld ⊢; refine pure_ (i := 1) (N := some 4) (v := ?_) (a' := ?_) #[false, true, false] rfl rfl (by kernel_rfl) (fun _ _ _ h => h) (Or.inl ⟨by rfl, ?_⟩) ?_ ?_; rotate_left; (intro w'; go_simp; with_reducible rfl); rotate_left; (simp only [Act.put, sI_, s0_, sS_, i64_w, i32_w]; rfl); refine take_ (i := 0) (N := some 12) (v := ?_) (a' := ?_) #[true, true, false] rfl rfl (by kernel_rfl) (fun _ _ _ h => h) (Or.inl ⟨by rfl, ?_⟩) hHeld ?_ ?_; rotate_left; (intro w' s0; go_simp; with_reducible rfl); rotate_left; (simp only [Act.put, sI_, s0_, sS_, i64_w, i32_w]; rfl); refine one_ (i := 2) (N := none) #[true, true, true] rfl rfl (by kernel_rfl) (by decide) (fun K hK => ?_); have hs7 : w6.cell? ⟨gb257, 0, none⟩ = some (.int .u64 0) := (blk_cell BK257.out 0).trans rfl; have hfs7 := blk_frozen BK257.out 0; have hns7_0 := NB256_257.out; have hms7_0 := NB257_256.out; refine skip_ (w1 := ?_) (by rfl) rfl ?_ ?_
  rotate_left
  ·go_simp
   rfl
  refine hK.out _ _ (((cell_far (p := ⟨gb257, _, none⟩) NB256_257.out _).trans (hHeld))) (fun hHeld => ?_); clear hK K; refine done_ (by kernel_rfl) ?_
  try go_wp2
  refine bodyPost_ret (results_tc rfl _ _ gb257 51 #[.int .u64 a0_0] (0, 0) _ rfl (bz_ BK257) Try.underlying51 rfl (by kernel_rfl)) rfl ?_; exact ⟨tE_, dL2_ HB GE256 GE257⟩
 ·rw [if_neg c3] at H; have c3b0 : decide (a1 < 1) = false := decide_eq_false c3; clear c3
  by_cases c8 : (IntKind.u64.wrap (a1)) = 0
  ·rw [if_pos c8] at H; exact absurd H (by simp)
  ·rw [if_neg c8] at H; have c8b0 : ((IntKind.u64.wrap (a1)) == 0) = false := beq_eq_false_iff_ne.mpr c8; have c8b1 : ((IntKind.u64.wrap (a1)) != 0) = true := bne_iff_ne.mpr c8; have H' := Aside0.mk H; clear H
   go_enter Try.func44, Try.ntmps44
   go_wp2_with (first | ((with_reducible refine gate_dst (N := 2) rfl ?_); refine bx_ (N := 2) (cs := #[.int .u64 a0_0]) (t := 51) ?_; intro gb256 hg w9 hbox hb; have BK256 := Aside0.mk (hbox); have GW256 := Aside0.mk ((dS_ hg (dL_ HB) : w.heap.size ≤ gb256)); have GE256 := GW256; replace HB := Aside0.mk (below_step (dL_ HB) hb); clear hb hbox hg) | ((with_reducible refine gate_dst (N := 5) rfl ?_); refine bx_ (N := 5) (cs := #[.int .u64 0]) (t := 51) ?_; intro gb257 hg w10 hbox hb; have BK257 := Aside0.mk (hbox); have GW257 := Aside0.mk ((dS_ hg (dL1_ HB GE256) : w.heap.size ≤ gb257)); have GE257 := GW257; replace HB := Aside0.mk (below_step (dL1_ HB GE256) hb); have NB256_257 := nb_ hg BK256; have NB257_256 := nc_ hg BK256; replace BK256 := bk_ BK256 hb; clear hb hbox hg))
   go_loopg [] k (fun kq w' => ∃ (x257000_1 : Int) (x258000_1 : Int), Aside0 (roll_Below.l0 kq (IntKind.u64.wrap (a1)) (Int.tmod (IntKind.u64.wrap (-(IntKind.u64.wrap (a1)))) (IntKind.u64.wrap (a1))) x257000_1 = some (r1, r2)) ∧ Aside0 (kq ≤ k) ∧ Aside0 (w'.heap[gb256]? = some (.cells #[.int .u64 x257000_1] 51 (0, 0))) ∧ Aside0 (w'.heap[gb257]? = some (.cells #[.int .u64 x258000_1] 51 (0, 0))) ∧ Aside0 (Below w.heap.size w w'))
   case atStart => exact ⟨(a0_0), (0), H', ⟨Nat.le_refl _⟩, ⟨dB_ BK256⟩, ⟨dB_ BK257⟩, ⟨dL2_ HB GE256 GE257⟩⟩
   case round =>
    clear H'; (try clear c3); (try clear c3b0); (try clear c8); (try clear c8b0); (try clear c8b1); obtain ⟨x257000_1, x258000_1, HA, HK1, BK256, BK257, HB⟩ := hrel
    cases gk with
    | zero => exact absurd HA.out (by simp [roll_Below.l0])
    | succ k1 =>
     have H := HA.out; clear HA; simp only [roll_Below.l0] at H; replace H := Option.bind_eq_some_iff.mp H; obtain ⟨⟨t258, t259⟩, A110, H⟩ := H; have A11 := Aside0.mk A110; clear A110
     by_cases c12 : t258 ≤ (Go.bits .xor .u64 IntKind.u64.max (Int.tmod (IntKind.u64.wrap (-(IntKind.u64.wrap (a1)))) (IntKind.u64.wrap (a1))))
     ·rw [if_pos c12] at H; have c12b0 : decide (t258 ≤ (Go.bits .xor .u64 IntKind.u64.max (Int.tmod (IntKind.u64.wrap (-(IntKind.u64.wrap (a1)))) (IntKind.u64.wrap (a1))))) = true := decide_eq_true c12; clear c12
      by_cases c13 : (IntKind.u64.wrap (a1)) = 0
      ·rw [if_pos c13] at H; exact absurd H (by simp)
      ·rw [if_neg c13] at H; have c13b0 : ((IntKind.u64.wrap (a1)) == 0) = false := beq_eq_false_iff_ne.mpr c13; have c13b1 : ((IntKind.u64.wrap (a1)) != 0) = true := bne_iff_ne.mpr c13; simp only [Option.some.injEq, Prod.mk.injEq] at H; obtain ⟨rfl, rfl⟩ := H; have hnb14 := NB256_257.out; have hnc14 := NB257_256.out; have z15a : wr.cell? ⟨gb256, 0, none⟩ = some (.int .u64 x257000_1) := (blk_cell BK256.out 0).trans rfl; have y15a := blk_frozen BK256.out 0
       try go_wp2_with (first | ((with_reducible refine gate_callee (f := 50) rfl ?_); refine gL_ (some 21) Try.func50 #[.agg #[.int .u64 x257000_1]] ?_ rfl; (with_reducible refine (roll_Next.calls x257000_1 t258 t259 _ A11.out).mono ?_); rintro e w16 ⟨rfl, hb⟩; refine ⟨_, rfl, ?_⟩; replace BK256 := bk_ BK256 hb; replace BK257 := bk_ BK257 hb; replace HB := Aside0.mk (below_step (dL2_ HB GE256 GE257) hb)) | ((with_reducible refine gate_dst (N := 9) rfl ?_); refine bx_ (N := 9) (cs := #[.int .u64 0]) (t := 51) ?_; intro gb260 hg w17 hbox hb; have BK260 := Aside0.mk (hbox); have GW260 := Aside0.mk ((dS_ hg (dL2_ HB GE256 GE257) : w.heap.size ≤ gb260)); have GE260 := GW260; replace HB := Aside0.mk (below_step (dL2_ HB GE256 GE257) hb); have NB256_260 := nb_ hg BK256; have NB260_256 := nc_ hg BK256; replace BK256 := bk_ BK256 hb; have NB257_260 := nb_ hg BK257; have NB260_257 := nc_ hg BK257; replace BK257 := bk_ BK257 hb; clear hb hbox hg; have hnb18 := NB260_256.out; have hnc18 := NB256_260.out; have hnb19 := NB260_257.out; have hnc19 := NB257_260.out; have z20a : w17.cell? ⟨gb260, 0, none⟩ = some (.int .u64 0) := (blk_cell BK260.out 0).trans rfl; have y20a := blk_frozen BK260.out 0; have z21a : w17.cell? ⟨gb256, 0, none⟩ = some (.int .u64 x257000_1) := (blk_cell BK256.out 0).trans rfl; have y21a := blk_frozen BK256.out 0))
       generalize hW_ : ((w17.setCell ⟨gb260, 0, none⟩ (.int .u64 t259)).setCell ⟨gb256, 0, none⟩ (.int .u64 t259)) = w22; replace BK256 : Aside0 (w22.heap[gb256]? = some (.cells #[.int .u64 t259] 51 (0, 0))) := hp_ hW_ (bz_ BK256); replace BK257 := bw_ hW_ BK257; replace BK260 : Aside0 (w22.heap[gb260]? = some (.cells #[.int .u64 t259] 51 (0, 0))) := hp_ hW_ (bz_ BK260); replace HB := hb_ hW_ HB; clear hW_; replace BK256 := Aside0.mk (blk_drew BK256.out); replace BK257 := Aside0.mk (blk_drew BK257.out); replace BK260 := Aside0.mk (blk_drew BK260.out); replace HB := Aside0.mk (below_drew1 HB.out); refine start_ (n := 7) (S := fun w' => w'.cell? ⟨gb256, 0, none⟩ = some (.int .u64 t259)) (ds := []) #[false, false, false, false, false, false, false] (by kernel_rfl) rfl rfl ((blk_cell BK256.out 0).trans rfl) (fun hHeld => ?_); generalize w22.drew = w23 at BK256 BK257 BK260 HB hHeld ⊢; refine pure_ (i := 0) (N := some 29) (v := ?_) (a' := ?_) (bA 1 7) rfl rfl (by kernel_rfl) (fun _ _ _ h => h) (Or.inl ⟨by rfl, ?_⟩) ?_ ?_; rotate_left; (intro w'; go_simp; with_reducible rfl); rotate_left; (simp only [Act.put, sI_, s0_, sS_, i64_w, i32_w]; rfl); refine pure_ (i := 1) (N := some 30) (v := ?_) (a' := ?_) (bA 2 7) rfl rfl (by kernel_rfl) (fun _ _ _ h => h) (Or.inl ⟨by rfl, ?_⟩) ?_ ?_; rotate_left; (intro w'; go_simp; with_reducible rfl); rotate_left; (simp only [Act.put, sI_, s0_, sS_, i64_w, i32_w]; rfl); refine pure_ (i := 2) (N := some 31) (v := ?_) (a' := ?_) (bA 3 7) rfl rfl (by kernel_rfl) (fun _ _ _ h => h) (Or.inl ⟨by rfl, ?_⟩) ?_ ?_; rotate_left; (intro w'; go_simp; with_reducible rfl); rotate_left; (simp only [Act.put, sI_, s0_, sS_, i64_w, i32_w]; rfl); refine pure_ (i := 3) (N := some 32) (v := ?_) (a' := ?_) (bA 4 7) rfl rfl (by kernel_rfl) (fun _ _ _ h => h) (Or.inl ⟨by rfl, ?_⟩) ?_ ?_; rotate_left; (intro w'; go_simp; with_reducible rfl); rotate_left; (simp only [Act.put, sI_, s0_, sS_, i64_w, i32_w]; rfl); refine pure_ (i := 5) (N := some 4) (v := ?_) (a' := ?_) #[true, true, true, true, false, true, false] rfl rfl (by kernel_rfl) (fun _ _ _ h => h) (Or.inl ⟨by rfl, ?_⟩) ?_ ?_; rotate_left; (intro w'; go_simp; with_reducible rfl); rotate_left; (simp only [Act.put, sI_, s0_, sS_, i64_w, i32_w]; rfl); refine take_ (i := 4) (N := some 33) (v := ?_) (a' := ?_) (bA 6 7) rfl rfl (by kernel_rfl) (fun _ _ _ h => h) (Or.inl ⟨by rfl, ?_⟩) hHeld ?_ ?_; rotate_left; (intro w' s0; go_simp; with_reducible rfl); rotate_left; (simp only [Act.put, sI_, s0_, sS_, i64_w, i32_w]; rfl)
       refine one_ (i := 6) (N := none) (bA 7 7) rfl rfl (by kernel_rfl) (by decide) (fun K hK => ?_); have hs24 : w23.cell? ⟨gb257, 0, none⟩ = some (.int .u64 x258000_1) := (blk_cell BK257.out 0).trans rfl; have hfs24 := blk_frozen BK257.out 0; have hns24_0 := NB256_257.out; have hns24_2 := NB260_257.out; have hms24_0 := NB257_256.out; have hms24_2 := NB257_260.out; refine skip_ (w1 := ?_) (by rfl) rfl ?_ ?_
       rotate_left
       ·go_simp
        rfl
       refine hK.out _ _ (((cell_far (p := ⟨gb257, _, none⟩) NB256_257.out _).trans (hHeld))) (fun hHeld => ?_); clear hK K; refine done_ (by kernel_rfl) ?_
       try go_wp2
       refine bodyPost_ret (results_tc rfl _ _ gb257 51 #[.int .u64 t259] (0, 0) _ rfl (bz_ BK257) Try.underlying51 rfl (by kernel_rfl)) rfl ?_; exact ⟨tE_, dL3_ HB GE256 GE257 GE260⟩
     ·rw [if_neg c12] at H; have c12b0 : decide (t258 ≤ (Go.bits .xor .u64 IntKind.u64.max (Int.tmod (IntKind.u64.wrap (-(IntKind.u64.wrap (a1)))) (IntKind.u64.wrap (a1))))) = false := decide_eq_false c12; clear c12; have H' := Aside0.mk H; clear H; have hnb25 := NB256_257.out; have hnc25 := NB257_256.out; have z26a : wr.cell? ⟨gb256, 0, none⟩ = some (.int .u64 x257000_1) := (blk_cell BK256.out 0).trans rfl; have y26a := blk_frozen BK256.out 0
      go_wp2_with (first | ((with_reducible refine gate_callee (f := 50) rfl ?_); refine gL_ (some 21) Try.func50 #[.agg #[.int .u64 x257000_1]] ?_ rfl; (with_reducible refine (roll_Next.calls x257000_1 t258 t259 _ A11.out).mono ?_); rintro e w27 ⟨rfl, hb⟩; refine ⟨_, rfl, ?_⟩; replace BK256 := bk_ BK256 hb; replace BK257 := bk_ BK257 hb; replace HB := Aside0.mk (below_step (dL2_ HB GE256 GE257) hb)) | ((with_reducible refine gate_dst (N := 9) rfl ?_); refine bx_ (N := 9) (cs := #[.int .u64 0]) (t := 51) ?_; intro gb260 hg w28 hbox hb; have BK260 := Aside0.mk (hbox); have GW260 := Aside0.mk ((dS_ hg (dL2_ HB GE256 GE257) : w.heap.size ≤ gb260)); have GE260 := GW260; replace HB := Aside0.mk (below_step (dL2_ HB GE256 GE257) hb); have NB256_260 := nb_ hg BK256; have NB260_256 := nc_ hg BK256; replace BK256 := bk_ BK256 hb; have NB257_260 := nb_ hg BK257; have NB260_257 := nc_ hg BK257; replace BK257 := bk_ BK257 hb; clear hb hbox hg; have hnb29 := NB260_256.out; have hnc29 := NB256_260.out; have hnb30 := NB260_257.out; have hnc30 := NB257_260.out; have z31a : w28.cell? ⟨gb260, 0, none⟩ = some (.int .u64 0) := (blk_cell BK260.out 0).trans rfl; have y31a := blk_frozen BK260.out 0; have z32a : w28.cell? ⟨gb256, 0, none⟩ = some (.int .u64 x257000_1) := (blk_cell BK256.out 0).trans rfl; have y32a := blk_frozen BK256.out 0))
      go_roundg k1
      case measure => have := HK1.out; omega
      case rel => exact ⟨(t259), (x258000_1), H', ⟨by have := HK1.out; omega⟩, ⟨bz_ BK256⟩, ⟨bz_ BK257⟩, ⟨dL3_ HB GE256 GE257 GE260⟩⟩

end Go.Proofs.Ytnkgelnkoljgdaa.Q
namespace Go.Proofs.Ytnkgelnkoljgdaa.Q
open Go.RowKit Go.Proofs.YtnkgelnkoljgdaaPrs Go.Proofs.YtnkgelnkoljgdaaOwn Go.Proofs.YtnkgelnkoljgdaaW.PrintWords Go.Proofs.YtnkgelnkoljgdaaW.PrintLast Go.Proofs.YtnkgelnkoljgdaaW.PrintMore
attribute [local go_sem] max2_int min2_int max_two min_two max_three min_three max_four min_four   -- for this text's walks alone
set_option linter.unusedVariables false
set_option linter.unusedSimpArgs false

/-! ### hinterlandref10_within: function 36 -/
def hinterlandref10_within.f (a0 : Int) (a1 : Int) (a2 : Int) : Option (Bool) := if a0 ≥ a1 then (some (decide (a0 ≤ a2))) else (some false)
set_option maxHeartbeats 8000000 in
set_option maxRecDepth 100000 in
theorem hinterlandref10_within.calls (a0 : Int) (a1 : Int) (a2 : Int) (r : Bool) (w : World) (h : hinterlandref10_within.f a0 a1 a2 = some r) :
    Calls Try.prog 36 #[.int .i64 a0, .int .i64 a1, .int .i64 a2] w fun e w' => e = .returned (.bool r) ∧ Drawn0 w w' := by
 have H : (if a0 ≥ a1 then (some (decide (a0 ≤ a2))) else (some false)) = some r := h; clear h
 by_cases c4 : a0 ≥ a1
 ·rw [if_pos c4] at H; have c4b0 : decide (a1 ≤ a0) = true := decide_eq_true c4; clear c4; obtain rfl := Option.some.inj H
  go_enter Try.func36, Try.ntmps36
  go_wp2
  go_ret
  exact ⟨tS_, by repeat (first | exact Drawn0.refl _ | apply Drawn0.step)⟩
 ·rw [if_neg c4] at H; have c4b0 : decide (a1 ≤ a0) = false := decide_eq_false c4; clear c4; obtain rfl := Option.some.inj H
  go_enter Try.func36, Try.ntmps36
  go_wp2
  go_ret
  exact ⟨tS_, by repeat (first | exact Drawn0.refl _ | apply Drawn0.step)⟩

end Go.Proofs.Ytnkgelnkoljgdaa.Q
namespace Go.Proofs.Ytnkgelnkoljgdaa.Q
open Go.RowKit Go.Proofs.YtnkgelnkoljgdaaPrs Go.Proofs.YtnkgelnkoljgdaaOwn Go.Proofs.YtnkgelnkoljgdaaW.PrintWords Go.Proofs.YtnkgelnkoljgdaaW.PrintLast Go.Proofs.YtnkgelnkoljgdaaW.PrintMore
attribute [local go_sem] max2_int min2_int max_two min_two max_three min_three max_four min_four   -- for this text's walks alone
set_option linter.unusedVariables false
set_option linter.unusedSimpArgs false

/-! ### hinterlandref10_Named: function 53 -/
mutual
def hinterlandref10_Named.j0 : Nat → ByteArray → Bool → Option (Bool)
  | 0, _, _ => none
  | k + 1, x0, x11 => if x11 = true then (some false) else (hinterlandref10_Named.l0 k x0 0)
def hinterlandref10_Named.l0 : Nat → ByteArray → Int → Option (Bool)
  | 0, _, _ => none
  | k + 1, x0, x3 => if x3 < (x0.size : Int) then (if 0 ≤ x3 then (if (bt x0 x3) < 97 then (hinterlandref10_Named.j2 k x0 x3 true) else (hinterlandref10_Named.j2 k x0 x3 (decide ((bt x0 x3) > 122)))) else (none)) else (some true)
def hinterlandref10_Named.j2 : Nat → ByteArray → Int → Bool → Option (Bool)
  | 0, _, _, _ => none
  | k + 1, x0, x3, x27 => if x27 = true then (some false) else (hinterlandref10_Named.l0 k x0 (wrap64 (x3 + 1)))
end
def hinterlandref10_Named.f (k : Nat) (a0 : ByteArray) : Option (Bool) := if (a0.size : Int) < 1 then (hinterlandref10_Named.j0 k a0 true) else (hinterlandref10_Named.j0 k a0 (decide ((a0.size : Int) > 12)))
theorem hinterlandref10_Named.mono_l : ∀ k, (∀ y0 y1, LeO (hinterlandref10_Named.j0 k y0 y1) (hinterlandref10_Named.j0 (k + 1) y0 y1)) ∧ (∀ y0 y1, LeO (hinterlandref10_Named.l0 k y0 y1) (hinterlandref10_Named.l0 (k + 1) y0 y1)) ∧ (∀ y0 y1 y2, LeO (hinterlandref10_Named.j2 k y0 y1 y2) (hinterlandref10_Named.j2 (k + 1) y0 y1 y2))
  | 0 => ⟨fun _ _ r h => by simp [hinterlandref10_Named.j0] at h, fun _ _ r h => by simp [hinterlandref10_Named.l0] at h, fun _ _ _ r h => by simp [hinterlandref10_Named.j2] at h⟩
  | k + 1 => by
    obtain ⟨ih0, ih1, ih2⟩ := hinterlandref10_Named.mono_l k; refine ⟨?_, ?_, ?_⟩
    · intro y0 y1
      unfold hinterlandref10_Named.j0
      repeat' first
      | (with_reducible first | apply ih0 | apply ih1 | apply ih2 | exact LeO.refl _ | exact LeO.none _ | refine LeO.ite ?_ ?_ | refine LeO.bind ?_ (fun _ => ?_))
    · intro y0 y1
      unfold hinterlandref10_Named.l0
      repeat' first
      | (with_reducible first | apply ih0 | apply ih1 | apply ih2 | exact LeO.refl _ | exact LeO.none _ | refine LeO.ite ?_ ?_ | refine LeO.bind ?_ (fun _ => ?_))
    · intro y0 y1 y2
      unfold hinterlandref10_Named.j2
      repeat' first
      | (with_reducible first | apply ih0 | apply ih1 | apply ih2 | exact LeO.refl _ | exact LeO.none _ | refine LeO.ite ?_ ?_ | refine LeO.bind ?_ (fun _ => ?_))
theorem hinterlandref10_Named.mono : ∀ a0 k, LeO (hinterlandref10_Named.f k a0) (hinterlandref10_Named.f (k + 1) a0) := by
  intro a0 k; obtain ⟨ih0, ih1, ih2⟩ := hinterlandref10_Named.mono_l k
  unfold hinterlandref10_Named.f
  repeat' first
      | (with_reducible first | apply ih0 | apply ih1 | apply ih2 | exact LeO.refl _ | exact LeO.none _ | refine LeO.ite ?_ ?_ | refine LeO.bind ?_ (fun _ => ?_))
set_option maxHeartbeats 8000000 in
set_option maxRecDepth 100000 in
theorem hinterlandref10_Named.calls (k : Nat) (a0 : ByteArray) (r : Bool) (w : World) (h : hinterlandref10_Named.f k a0 = some r) :
    Calls Try.prog 53 #[.string a0] w fun e w' => e = .returned (.bool r) ∧ Drawn0 w w' := by
 have H : (if (a0.size : Int) < 1 then (hinterlandref10_Named.j0 k a0 true) else (hinterlandref10_Named.j0 k a0 (decide ((a0.size : Int) > 12)))) = some r := h; clear h; have HC2 := Aside0.mk H; clear H
 go_enter Try.func53, Try.ntmps53
 go_upto_region 1 with (fail)
 go_cut [11] (fun v11 wc => ∃ (kq : Nat) (x11_1 : Bool), v11 = .bool x11_1 ∧ Aside0 (hinterlandref10_Named.j0 kq a0 x11_1 = some r) ∧ Aside0 (kq ≤ k) ∧ Drawn0 w wc)
 case first =>
  have H := HC2.out; clear HC2
  by_cases c3 : (a0.size : Int) < 1
  ·rw [if_pos c3] at H; have c3b0 : decide ((a0.size : Int) < 1) = true := decide_eq_true c3; have c3b1 : decide (a0.size < 1) = true := decide_eq_true (by omega); clear c3
   (first | rw [c3b0] | (simp only [i64_w, i32_w]; rw [c3b0]) | skip)
   have H' := Aside0.mk H; clear H; go_wp2
   go_meet
   case rel => exact ⟨_, (true), tS_, H', ⟨by first | omega | exact Nat.le_refl _⟩, by repeat (first | exact Drawn0.refl _ | apply Drawn0.step)⟩
  ·rw [if_neg c3] at H; have c3b0 : decide ((a0.size : Int) < 1) = false := decide_eq_false c3; have c3b1 : decide (a0.size < 1) = false := decide_eq_false (by omega); clear c3
   (first | rw [c3b0] | (simp only [i64_w, i32_w]; rw [c3b0]) | skip)
   have H' := Aside0.mk H; clear H; go_wp2
   go_meet
   case rel => exact ⟨_, (decide ((a0.size : Int) > 12)), tS_, H', ⟨by first | omega | exact Nat.le_refl _⟩, by repeat (first | exact Drawn0.refl _ | apply Drawn0.step)⟩
 case rest =>
  clear HC2; (try clear c3); obtain ⟨kq, x11_1, rfl, HA, HJ1, ⟨mc1, rfl⟩⟩ := hcut
  cases kq with
  | zero => exact absurd HA.out (by simp [hinterlandref10_Named.j0])
  | succ kj1 =>
   have H := HA.out; clear HA; simp only [hinterlandref10_Named.j0] at H
   by_cases c4 : x11_1 = true
   ·subst c4; rw [if_pos rfl] at H; obtain rfl := Option.some.inj H; go_wp2
    go_ret
    exact ⟨tS_, by repeat (first | exact Drawn0.refl _ | apply Drawn0.step)⟩
   ·replace c4 := Bool.eq_false_iff.mpr c4; subst c4; rw [if_neg (show ¬ (false = true) by decide)] at H; have H' := Aside0.mk H; clear H; go_wp2
    go_loopg [3] kj1 (fun kq v3 w' => ∃ (x3_2 : Int), v3 = .int .i64 x3_2 ∧ Aside0 (hinterlandref10_Named.l0 kq a0 x3_2 = some r) ∧ Aside0 (kq ≤ kj1) ∧ Drawn0 w w')
    case atStart => exact ⟨(0), tS_, H', ⟨Nat.le_refl _⟩, by repeat (first | exact Drawn0.refl _ | apply Drawn0.step)⟩
    case round =>
     clear H'; (try clear c3); (try clear c4); obtain ⟨x3_2, rfl, HA, HK2, ⟨m2, rfl⟩⟩ := hrel
     cases gk with
     | zero => exact absurd HA.out (by simp [hinterlandref10_Named.l0])
     | succ k2 =>
      have H := HA.out; clear HA; simp only [hinterlandref10_Named.l0] at H
      by_cases c5 : x3_2 < (a0.size : Int)
      ·rw [if_pos c5] at H; have c5b0 : decide (x3_2 < (a0.size : Int)) = true := decide_eq_true c5; clear c5; have HC6 := Aside0.mk H; clear H
       go_upto_region 6 with (fail)
       go_cut [27] (fun v27 wc => ∃ (kq : Nat) (x27_5 : Bool), v27 = .bool x27_5 ∧ Aside0 (hinterlandref10_Named.j2 kq a0 x3_2 x27_5 = some r) ∧ Aside0 (kq ≤ k2) ∧ Drawn0 w wc)
       case first =>
        have H := HC6.out; clear HC6
        by_cases c7 : 0 ≤ x3_2
        ·rw [if_pos c7] at H; have c7b0 : decide (0 ≤ x3_2) = true := decide_eq_true c7; clear c7
         (first | rw [c7b0] | (simp only [i64_w, i32_w]; rw [c7b0]) | skip)
         by_cases c9 : (bt a0 x3_2) < 97
         ·rw [if_pos c9] at H; have c9b0 : decide ((bt a0 x3_2) < 97) = true := decide_eq_true c9; clear c9; have H' := Aside0.mk H; clear H; have p8 : 0 ≤ (x3_2 : Int) := of_decide_eq_true tW_; have q8 : x3_2 < (a0.size : Int) := of_decide_eq_true tW_; have hx8 := bt_at a0 x3_2; replace p8 := eq_true p8; replace q8 := eq_true q8; go_wp2
          go_meet
          case rel => exact ⟨_, (true), tS_, H', ⟨by have := HJ1.out; have := HK2.out; first | omega | exact Nat.le_refl _⟩, by repeat (first | exact Drawn0.refl _ | apply Drawn0.step)⟩
         ·rw [if_neg c9] at H; have c9b0 : decide ((bt a0 x3_2) < 97) = false := decide_eq_false c9; clear c9; have H' := Aside0.mk H; clear H; have p8 : 0 ≤ (x3_2 : Int) := of_decide_eq_true tW_; have q8 : x3_2 < (a0.size : Int) := of_decide_eq_true tW_; have hx8 := bt_at a0 x3_2; replace p8 := eq_true p8; replace q8 := eq_true q8; have p10 : 0 ≤ (x3_2 : Int) := of_decide_eq_true tW_; have q10 : x3_2 < (a0.size : Int) := of_decide_eq_true tW_; have hx10 := bt_at a0 x3_2; replace p10 := eq_true p10; replace q10 := eq_true q10; go_wp2
          go_meet
          case rel => exact ⟨_, (decide ((bt a0 x3_2) > 122)), tS_, H', ⟨by have := HJ1.out; have := HK2.out; first | omega | exact Nat.le_refl _⟩, by repeat (first | exact Drawn0.refl _ | apply Drawn0.step)⟩
        ·rw [if_neg c7] at H; exact absurd H (by simp)
       case rest =>
        clear HC6; (try clear c3); (try clear c4); (try clear c5); (try clear c5b0); (try clear c7); (try clear c9); obtain ⟨kq, x27_5, rfl, HA, HJ5, ⟨mc5, rfl⟩⟩ := hcut
        cases kq with
        | zero => exact absurd HA.out (by simp [hinterlandref10_Named.j2])
        | succ kj5 =>
         have H := HA.out; clear HA; simp only [hinterlandref10_Named.j2] at H
         by_cases c11 : x27_5 = true
         ·subst c11; rw [if_pos rfl] at H; obtain rfl := Option.some.inj H; go_wp2
          go_ret
          exact ⟨tS_, by repeat (first | exact Drawn0.refl _ | apply Drawn0.step)⟩
         ·replace c11 := Bool.eq_false_iff.mpr c11; subst c11; rw [if_neg (show ¬ (false = true) by decide)] at H; have H' := Aside0.mk H; clear H; go_wp2
          go_roundg kj5
          case measure => have := HJ1.out; have := HK2.out; have := HJ5.out; omega
          case rel => exact ⟨(wrap64 (x3_2 + 1)), tS_, H', ⟨by have := HJ1.out; have := HK2.out; have := HJ5.out; omega⟩, by repeat (first | exact Drawn0.refl _ | apply Drawn0.step)⟩
      ·rw [if_neg c5] at H; have c5b0 : decide (x3_2 < (a0.size : Int)) = false := decide_eq_false c5; clear c5; obtain rfl := Option.some.inj H; go_wp2
       go_ret
       exact ⟨tS_, by repeat (first | exact Drawn0.refl _ | apply Drawn0.step)⟩

end Go.Proofs.Ytnkgelnkoljgdaa.Q
