-- PRINTED by print.py out of the translation. Not trusted: Lean checks it.
import Derived.Test.YtgnahbjpockdmabPrs
import Derived.Test.YtgnahbjpockdmabQ0
import Derived.Test.YtgnahbjpockdmabQ14
namespace Go.Proofs.Ytgnahbjpockdmab.Q
open Go.RowKit Go.Proofs.YtgnahbjpockdmabPrs Go.Proofs.YtgnahbjpockdmabOwn Go.Proofs.YtgnahbjpockdmabW.PrintWords Go.Proofs.YtgnahbjpockdmabW.PrintLast Go.Proofs.YtgnahbjpockdmabW.PrintMore
open List renaming setIfInBounds_toArray → sI_, set_cons_zero → s0_, set_cons_succ → sS_
attribute [local go_sem] max2_int min2_int max_two min_two max_three min_three max_four min_four   -- for this text's walks alone
set_option linter.unusedVariables false
set_option linter.unusedSimpArgs false

/-! ### cargo_Validate: function 29 -/
mutual
def cargo_Validate.l0 : Nat → List (S49) → List (S49) → Int → Int → Option (Int)
  | 0, _, _, _, _ => none
  | k + 1, x0, x8, x9, x10 => if x10 < x9 then (if 0 ≤ x10 then (if x10 < (x8.length : Int) then ((cargo_sound.f ((rd_T49 x8 x10).f0) ((rd_T49 x8 x10).f1) ((rd_T49 x8 x10).f2) ((rd_T49 x8 x10).f3) ((rd_T49 x8 x10).f4) ((rd_T49 x8 x10).f5)).bind fun t239 => (if t239 = true then (if x10 > 0 then (if 0 ≤ (wrap64 (x10 - 1)) then (if (wrap64 (x10 - 1)) < (x0.length : Int) then ((cargo_compare.f k ((rd_T49 x0 (wrap64 (x10 - 1))).f0) ((rd_T49 x0 (wrap64 (x10 - 1))).f1) ((rd_T49 x0 (wrap64 (x10 - 1))).f2) ((rd_T49 x0 (wrap64 (x10 - 1))).f3) ((rd_T49 x0 (wrap64 (x10 - 1))).f4) ((rd_T49 x0 (wrap64 (x10 - 1))).f5) ((rd_T49 x8 x10).f0) ((rd_T49 x8 x10).f1) ((rd_T49 x8 x10).f2) ((rd_T49 x8 x10).f3) ((rd_T49 x8 x10).f4) ((rd_T49 x8 x10).f5)).bind fun t241 => (cargo_Validate.j1 k x0 x8 x9 x10 (decide (t241 ≥ 0)))) else (none)) else (none)) else (cargo_Validate.j1 k x0 x8 x9 x10 false)) else (cargo_Validate.j1 k x0 x8 x9 x10 true))) else (none)) else (none)) else (some 0)
def cargo_Validate.j1 : Nat → List (S49) → List (S49) → Int → Int → Bool → Option (Int)
  | 0, _, _, _, _, _ => none
  | k + 1, x0, x8, x9, x10, x31 => if x31 = true then (some 1) else (cargo_Validate.l0 k x0 x8 x9 (wrap64 (x10 + 1)))
end
def cargo_Validate.f (k : Nat) (l0 : List (S49)) : Option (Int) := if (l0.length : Int) > 200 then (some 4) else (cargo_Validate.l0 k l0 l0 (l0.length : Int) 0)
theorem cargo_Validate.mono_l : ∀ k, (∀ y0 y1 y2 y3, LeO (cargo_Validate.l0 k y0 y1 y2 y3) (cargo_Validate.l0 (k + 1) y0 y1 y2 y3)) ∧ (∀ y0 y1 y2 y3 y4, LeO (cargo_Validate.j1 k y0 y1 y2 y3 y4) (cargo_Validate.j1 (k + 1) y0 y1 y2 y3 y4))
  | 0 => ⟨fun _ _ _ _ r h => by simp [cargo_Validate.l0] at h, fun _ _ _ _ _ r h => by simp [cargo_Validate.j1] at h⟩
  | k + 1 => by
    obtain ⟨ih0, ih1⟩ := cargo_Validate.mono_l k; refine ⟨?_, ?_⟩
    · intro y0 y1 y2 y3
      unfold cargo_Validate.l0
      repeat' first
      | (with_reducible first | apply ih0 | apply ih1 | apply cargo_compare.mono | exact LeO.refl _ | exact LeO.none _ | refine LeO.ite ?_ ?_ | refine LeO.bind ?_ (fun _ => ?_))
    · intro y0 y1 y2 y3 y4
      unfold cargo_Validate.j1
      repeat' first
      | (with_reducible first | apply ih0 | apply ih1 | apply cargo_compare.mono | exact LeO.refl _ | exact LeO.none _ | refine LeO.ite ?_ ?_ | refine LeO.bind ?_ (fun _ => ?_))
theorem cargo_Validate.mono : ∀ a0 k, LeO (cargo_Validate.f k a0) (cargo_Validate.f (k + 1) a0) := by
  intro a0 k; obtain ⟨ih0, ih1⟩ := cargo_Validate.mono_l k
  unfold cargo_Validate.f
  repeat' first
      | (with_reducible first | apply ih0 | apply ih1 | apply cargo_compare.mono | exact LeO.refl _ | exact LeO.none _ | refine LeO.ite ?_ ?_ | refine LeO.bind ?_ (fun _ => ?_))
def cargo_Validate.T6 : Bool × List (List Nat × List Nat) := (true, [([], []), ([0], [0]), ([1], [1]), ([2, 1], [2]), ([3], [3]), ([4, 3], [3, 4]), ([5, 3, 3], [3, 5]), ([6], [6]), ([6], [6]), ([8, 6], [6, 8]), ([7, 9, 6], [6, 7, 9]), ([10, 6], [6, 10]), ([6], [6]), ([11, 12, 6, 6], [6, 11, 12]), ([13, 6], [6, 13]), ([6, 14, 3], [3, 6, 14]), ([3, 15], [3, 15])])
def cargo_Validate.B6 : List Nat := [0, 1, 3, 7, 15, 31, 63, 127, 127, 383, 1023, 2047, 127, 8191, 16383, 32767, 65535]
theorem cargo_Validate.tab6 : rtab .any (opsOf Try.f29 6) = cargo_Validate.T6 := by kernel_rfl
theorem cargo_Validate.bits6 : waitsOk cargo_Validate.T6.2 cargo_Validate.B6 = true := by kernel_rfl
set_option maxHeartbeats 8000000 in
set_option maxRecDepth 100000 in
theorem cargo_Validate.calls (k : Nat) (A0 : Option Addr) (c0 : Nat) (l0 : List (S49)) (r : Int) (w : World) (hr0 : Kd.C k49 w A0 l0.length l0) (hc0 : l0.length ≤ c0) (h : cargo_Validate.f k l0 = some r) :
    Calls Try.prog 29 #[.slice A0 l0.length c0] w fun e w' => e = .returned (.int .i64 r) ∧ Below w.heap.size w w' := by
 have hu49 := Try.underlying49; have HR0 := Aside0.mk hr0; have HC0 := Aside0.mk hc0; clear hr0 hc0; have HB := Aside0.mk (Below.refl w.heap.size w); have H : (if (l0.length : Int) > 200 then (some 4) else (cargo_Validate.l0 k l0 l0 (l0.length : Int) 0)) = some r := h; clear h
 by_cases c2 : (l0.length : Int) > 200
 ·rw [if_pos c2] at H; have c2b0 : decide (200 < (l0.length : Int)) = true := decide_eq_true c2; have c2b1 : decide (200 < l0.length) = true := decide_eq_true (by omega); clear c2; obtain rfl := Option.some.inj H
  go_enter Try.func29, Try.ntmps29
  go_wp2
  go_ret
  exact ⟨tE_, dL_ HB⟩
 ·rw [if_neg c2] at H; have c2b0 : decide (200 < (l0.length : Int)) = false := decide_eq_false c2; have c2b1 : decide (200 < l0.length) = false := decide_eq_false (by omega); clear c2; have H' := Aside0.mk H; clear H
  go_enter Try.func29, Try.ntmps29
  go_wp2
  go_loopg [10] k (fun kq v10 w' => ∃ (x10_1 : Int), v10 = .int .i64 x10_1 ∧ Aside0 (cargo_Validate.l0 kq l0 l0 (l0.length : Int) x10_1 = some r) ∧ Aside0 (kq ≤ k) ∧ Aside0 (Below w.heap.size w w'))
  case atStart => exact ⟨(0), tS_, H', ⟨Nat.le_refl _⟩, ⟨dL_ HB⟩⟩
  case round =>
   clear H'; (try clear c2); (try clear c2b0); (try clear c2b1); obtain ⟨x10_1, rfl, HA, HK1, HB⟩ := hrel
   cases gk with
   | zero => exact absurd HA.out (by simp [cargo_Validate.l0])
   | succ k1 =>
    have H := HA.out; clear HA; simp only [cargo_Validate.l0] at H
    by_cases c3 : x10_1 < (l0.length : Int)
    ·rw [if_pos c3] at H; have c3b0 : decide (x10_1 < (l0.length : Int)) = true := decide_eq_true c3; clear c3
     by_cases c4 : 0 ≤ x10_1
     ·rw [if_pos c4] at H; have c4b0 : decide (0 ≤ x10_1) = true := decide_eq_true c4; clear c4
      by_cases c5 : x10_1 < (l0.length : Int)
      ·rw [if_pos c5] at H; have c5b0 : decide (x10_1 < (l0.length : Int)) = true := decide_eq_true c5; clear c5; have HC6 := Aside0.mk H; clear H; have p237 : 0 ≤ (x10_1 : Int) := of_decide_eq_true tW_; have q237 : x10_1 < (l0.length : Int) := of_decide_eq_true tW_; obtain ⟨ad237, e237, hx237_0, hx237_1, hx237_2, hx237_3, hx237_4, hx237_5⟩ := at_T49 HR0.out x10_1 p237 q237; cases e237; replace hx237_0 := bc_ HB hx237_0; replace hx237_1 := bc_ HB hx237_1; replace hx237_2 := bc_ HB hx237_2; replace hx237_3 := bc_ HB hx237_3; replace hx237_4 := bc_ HB hx237_4; replace hx237_5 := bc_ HB hx237_5; replace p237 := eq_true p237; replace q237 := eq_true q237
       go_upto_region 6 with (first | ((with_reducible refine gate_dst (N := 4) rfl ?_); refine bx_ (N := 4) (cs := #[.int .i64 0, .int .i64 0, .int .i64 0, .int .i64 0, .int .i64 0, .int .i64 0]) (t := 49) ?_; intro gb238 hg w7 hbox hb; have BK238 := Aside0.mk (hbox); have GW238 := Aside0.mk ((dS_ hg (dL_ HB) : w.heap.size ≤ gb238)); have GE238 := GW238; replace HB := Aside0.mk (below_step (dL_ HB) hb); clear hb hbox hg; obtain ⟨z8a, z8b, z8c, z8d, z8e, z8f, y8a, y8b, y8c, y8d, y8e, y8f⟩ := cs6_ BK238.out))
       (try simp only [Act.put, sI_, s0_, sS_])
       go_cut [31] (fun v31 wc => ∃ (kq : Nat) (x31_5 : Bool), v31 = .bool x31_5 ∧ Aside0 (cargo_Validate.j1 kq l0 l0 (l0.length : Int) x10_1 x31_5 = some r) ∧ Aside0 (kq ≤ k1) ∧ Aside0 (wc.heap[gb238]? = some (.cells #[.int .i64 ((rd_T49 l0 x10_1).f0), .int .i64 ((rd_T49 l0 x10_1).f1), .int .i64 ((rd_T49 l0 x10_1).f2), .int .i64 ((rd_T49 l0 x10_1).f3), .int .i64 ((rd_T49 l0 x10_1).f4), .int .i64 ((rd_T49 l0 x10_1).f5)] 49 (0, 0))) ∧ Aside0 (Below w.heap.size w wc))
       case first =>
        have H := HC6.out; clear HC6; replace H := Option.bind_eq_some_iff.mp H; obtain ⟨t239, A90, H⟩ := H; have A9 := Aside0.mk A90; clear A90
        by_cases c10 : t239 = true
        ·subst c10; rw [if_pos rfl] at H
         by_cases c11 : x10_1 > 0
         ·rw [if_pos c11] at H; have c11b0 : decide (0 < x10_1) = true := decide_eq_true c11; clear c11
          (first | rw [c11b0] | (simp only [i64_w, i32_w]; rw [c11b0]) | skip)
          obtain ⟨ji12, hji12⟩ : ∃ j_ : Int, (wrap64 (x10_1 - 1)) = j_ := ⟨_, rfl⟩; replace H : (if 0 ≤ (ji12) then (if (ji12) < (l0.length : Int) then ((cargo_compare.f k1 ((rd_T49 l0 (ji12)).f0) ((rd_T49 l0 (ji12)).f1) ((rd_T49 l0 (ji12)).f2) ((rd_T49 l0 (ji12)).f3) ((rd_T49 l0 (ji12)).f4) ((rd_T49 l0 (ji12)).f5) ((rd_T49 l0 x10_1).f0) ((rd_T49 l0 x10_1).f1) ((rd_T49 l0 x10_1).f2) ((rd_T49 l0 x10_1).f3) ((rd_T49 l0 x10_1).f4) ((rd_T49 l0 x10_1).f5)).bind fun t241 => (cargo_Validate.j1 k1 l0 l0 (l0.length : Int) x10_1 (decide (t241 ≥ 0)))) else (none)) else (none)) = some r := by first | (rw [hji12] at H; exact H) | (simp only [hji12] at H ⊢; exact H)
          (try rw [hji12] at A9); have hji12w : (IntKind.i64.wrap (x10_1 - 1)) = ji12 := (i64_w _).trans hji12
          by_cases c13 : 0 ≤ (ji12)
          ·rw [if_pos c13] at H; have c13b0 : decide (0 ≤ (ji12)) = true := decide_eq_true c13; clear c13
           by_cases c14 : (ji12) < (l0.length : Int)
           ·rw [if_pos c14] at H; have c14b0 : decide ((ji12) < (l0.length : Int)) = true := decide_eq_true c14; clear c14; replace H := Option.bind_eq_some_iff.mp H; obtain ⟨t241, A150, H⟩ := H; have A15 := Aside0.mk A150; clear A150; have H' := Aside0.mk H; clear H
            try go_wp2
            generalize hW_ : ((((((w7.setCell ⟨gb238, 0, none⟩ (.int .i64 ((rd_T49 l0 x10_1).f0))).setCell ⟨gb238, 1, none⟩ (.int .i64 ((rd_T49 l0 x10_1).f1))).setCell ⟨gb238, 2, none⟩ (.int .i64 ((rd_T49 l0 x10_1).f2))).setCell ⟨gb238, 3, none⟩ (.int .i64 ((rd_T49 l0 x10_1).f3))).setCell ⟨gb238, 4, none⟩ (.int .i64 ((rd_T49 l0 x10_1).f4))).setCell ⟨gb238, 5, none⟩ (.int .i64 ((rd_T49 l0 x10_1).f5))) = w16; replace BK238 : Aside0 (w16.heap[gb238]? = some (.cells #[.int .i64 ((rd_T49 l0 x10_1).f0), .int .i64 ((rd_T49 l0 x10_1).f1), .int .i64 ((rd_T49 l0 x10_1).f2), .int .i64 ((rd_T49 l0 x10_1).f3), .int .i64 ((rd_T49 l0 x10_1).f4), .int .i64 ((rd_T49 l0 x10_1).f5)] 49 (0, 0))) := hp_ hW_ (bz_ BK238); replace HB := hb_ hW_ HB; clear hW_; replace BK238 := Aside0.mk (blk_drew BK238.out); replace HB := Aside0.mk (below_drew1 HB.out); have p240 : 0 ≤ ((ji12) : Int) := of_decide_eq_true tW_; have q240 : (ji12) < (l0.length : Int) := of_decide_eq_true tW_; obtain ⟨ad240, e240, hx240_0, hx240_1, hx240_2, hx240_3, hx240_4, hx240_5⟩ := at_T49 HR0.out (ji12) p240 q240; have hw240_5 := hx240_5; have hw240_4 := hx240_4; have hw240_3 := hx240_3; have hw240_2 := hx240_2; have hw240_1 := hx240_1; have hw240_0 := hx240_0; obtain rfl : ad237 = ad240 := (by injection e240); replace hx240_0 := bc_ HB hx240_0; replace hx240_1 := bc_ HB hx240_1; replace hx240_2 := bc_ HB hx240_2; replace hx240_3 := bc_ HB hx240_3; replace hx240_4 := bc_ HB hx240_4; replace hx240_5 := bc_ HB hx240_5; replace p240 := eq_true p240; replace q240 := eq_true q240; refine start_ (n := 17) (S := fun w' => w'.cell? ⟨gb238, 0, none⟩ = some (.int .i64 ((rd_T49 l0 x10_1).f0)) ∧ w'.cell? ⟨gb238, 1, none⟩ = some (.int .i64 ((rd_T49 l0 x10_1).f1)) ∧ w'.cell? ⟨gb238, 2, none⟩ = some (.int .i64 ((rd_T49 l0 x10_1).f2)) ∧ w'.cell? ⟨gb238, 3, none⟩ = some (.int .i64 ((rd_T49 l0 x10_1).f3)) ∧ w'.cell? ⟨gb238, 4, none⟩ = some (.int .i64 ((rd_T49 l0 x10_1).f4)) ∧ w'.cell? ⟨gb238, 5, none⟩ = some (.int .i64 ((rd_T49 l0 x10_1).f5)) ∧ w'.cell? (ad237.add (((ji12)).toNat * 6)) = some (.int .i64 ((rd_T49 l0 (ji12)).f0)) ∧ w'.cell? ⟨(ad237.add (((ji12)).toNat * 6)).block, (ad237.add (((ji12)).toNat * 6)).off + 1, none⟩ = some (.int .i64 ((rd_T49 l0 (ji12)).f1)) ∧ w'.cell? ⟨(ad237.add (((ji12)).toNat * 6)).block, (ad237.add (((ji12)).toNat * 6)).off + 2, none⟩ = some (.int .i64 ((rd_T49 l0 (ji12)).f2)) ∧ w'.cell? ⟨(ad237.add (((ji12)).toNat * 6)).block, (ad237.add (((ji12)).toNat * 6)).off + 3, none⟩ = some (.int .i64 ((rd_T49 l0 (ji12)).f3)) ∧ w'.cell? ⟨(ad237.add (((ji12)).toNat * 6)).block, (ad237.add (((ji12)).toNat * 6)).off + 4, none⟩ = some (.int .i64 ((rd_T49 l0 (ji12)).f4)) ∧ w'.cell? ⟨(ad237.add (((ji12)).toNat * 6)).block, (ad237.add (((ji12)).toNat * 6)).off + 5, none⟩ = some (.int .i64 ((rd_T49 l0 (ji12)).f5))) (ds := []) ⟨bN 17 0⟩ (by kernel_rfl) rfl rfl ⟨(blk_cell BK238.out 0).trans rfl, (blk_cell BK238.out 1).trans rfl, (blk_cell BK238.out 2).trans rfl, (blk_cell BK238.out 3).trans rfl, (blk_cell BK238.out 4).trans rfl, (blk_cell BK238.out 5).trans rfl, ((HB.out.cell (World.block_lt_of_cell? w _ hw240_0)).trans hw240_0), ((HB.out.cell (World.block_lt_of_cell? w _ hw240_1)).trans hw240_1), ((HB.out.cell (World.block_lt_of_cell? w _ hw240_2)).trans hw240_2), ((HB.out.cell (World.block_lt_of_cell? w _ hw240_3)).trans hw240_3), ((HB.out.cell (World.block_lt_of_cell? w _ hw240_4)).trans hw240_4), ((HB.out.cell (World.block_lt_of_cell? w _ hw240_5)).trans hw240_5)⟩ (fun hHeld => ?_); refine with_tabW cargo_Validate.tab6 cargo_Validate.bits6 (fun HT_ HW_ => ?_)
            generalize w16.drew = w17 at BK238 HB hx240_0 hx240_1 hx240_2 hx240_3 hx240_4 hx240_5 hHeld ⊢; refine tk_ (i := 0) (N := some 15) (bA 1 17) HT_ HW_ hHeld rfl ?_; refine on_ (i := 1) (N := some 16) (bA 2 17) HT_ rfl (fun K hK => ?_); refine goes_ Try.func38 (by kernel_rfl) rfl #[.agg #[.int .i64 ((rd_T49 l0 x10_1).f0), .int .i64 ((rd_T49 l0 x10_1).f1), .int .i64 ((rd_T49 l0 x10_1).f2), .int .i64 ((rd_T49 l0 x10_1).f3), .int .i64 ((rd_T49 l0 x10_1).f4), .int .i64 ((rd_T49 l0 x10_1).f5)]] (by rfl) rfl rfl tA_ ?_
            with_reducible refine (cargo_sound.calls ((rd_T49 l0 x10_1).f0) ((rd_T49 l0 x10_1).f1) ((rd_T49 l0 x10_1).f2) ((rd_T49 l0 x10_1).f3) ((rd_T49 l0 x10_1).f4) ((rd_T49 l0 x10_1).f5) true _ A9.out).mono ?_
            rintro e w18 ⟨rfl, hb⟩; refine ⟨_, rfl, ?_⟩; replace BK238 := bk_ BK238 hb; replace HB := Aside0.mk (below_step (dL1_ HB GE238) hb); (try clear hb); refine hK.out _ _ ⟨(blk_cell BK238.out 0).trans rfl, (blk_cell BK238.out 1).trans rfl, (blk_cell BK238.out 2).trans rfl, (blk_cell BK238.out 3).trans rfl, (blk_cell BK238.out 4).trans rfl, (blk_cell BK238.out 5).trans rfl, ((HB.out.cell (World.block_lt_of_cell? w _ hw240_0)).trans hw240_0), ((HB.out.cell (World.block_lt_of_cell? w _ hw240_1)).trans hw240_1), ((HB.out.cell (World.block_lt_of_cell? w _ hw240_2)).trans hw240_2), ((HB.out.cell (World.block_lt_of_cell? w _ hw240_3)).trans hw240_3), ((HB.out.cell (World.block_lt_of_cell? w _ hw240_4)).trans hw240_4), ((HB.out.cell (World.block_lt_of_cell? w _ hw240_5)).trans hw240_5)⟩ (fun hHeld => ?_); clear hK K; refine norm_ (a' := ?_) ?_ ?_
            rotate_left
            ·show Act.put _ (some 16) _ = _
             simp only [Act.put, sI_, s0_, sS_, i64_w, i32_w]
             rfl
            refine pu_ (i := 2) (N := some 17) (bA 3 17) HT_ rfl ?_; refine pu_ (i := 3) (N := some 18) (bA 4 17) HT_ rfl ?_; refine pu_ (i := 4) (N := some 19) (bA 5 17) HT_ rfl ?_; refine pu_ (i := 5) (N := some 20) (bA 6 17) HT_ rfl ?_; refine pu_ (i := 6) (N := some 21) (bA 7 17) HT_ rfl ?_; refine pu_ (i := 7) (N := some 22) (bA 8 17) HT_ rfl ?_; refine pu_ (i := 8) (N := some 23) (bA 9 17) HT_ rfl ?_; refine pu_ (i := 9) (N := some 24) (bA 10 17) HT_ rfl ?_; refine pu_ (i := 10) (N := some 25) (bA 11 17) HT_ rfl ?_; refine tk_ (i := 11) (N := some 26) (bA 12 17) HT_ HW_ hHeld rfl ?_; refine tk_ (i := 12) (N := some 27) (bA 13 17) HT_ HW_ hHeld rfl ?_; refine on_ (i := 13) (N := some 28) (bA 14 17) HT_ rfl (fun K hK => ?_); refine goes_ Try.func39 (by kernel_rfl) rfl #[.agg #[.int .i64 ((rd_T49 l0 (ji12)).f0), .int .i64 ((rd_T49 l0 (ji12)).f1), .int .i64 ((rd_T49 l0 (ji12)).f2), .int .i64 ((rd_T49 l0 (ji12)).f3), .int .i64 ((rd_T49 l0 (ji12)).f4), .int .i64 ((rd_T49 l0 (ji12)).f5)], .agg #[.int .i64 ((rd_T49 l0 x10_1).f0), .int .i64 ((rd_T49 l0 x10_1).f1), .int .i64 ((rd_T49 l0 x10_1).f2), .int .i64 ((rd_T49 l0 x10_1).f3), .int .i64 ((rd_T49 l0 x10_1).f4), .int .i64 ((rd_T49 l0 x10_1).f5)]] (by rfl) rfl rfl (by (try simp only [List.map_toArray, List.map_cons, List.map_nil]); first | done | (simp only [hji12]; rfl) | rfl | (simp only [List.length_drop, List.length_take]; rfl)) ?_
            with_reducible refine (cargo_compare.calls k1 ((rd_T49 l0 (ji12)).f0) ((rd_T49 l0 (ji12)).f1) ((rd_T49 l0 (ji12)).f2) ((rd_T49 l0 (ji12)).f3) ((rd_T49 l0 (ji12)).f4) ((rd_T49 l0 (ji12)).f5) ((rd_T49 l0 x10_1).f0) ((rd_T49 l0 x10_1).f1) ((rd_T49 l0 x10_1).f2) ((rd_T49 l0 x10_1).f3) ((rd_T49 l0 x10_1).f4) ((rd_T49 l0 x10_1).f5) t241 _ A15.out).mono ?_
            rintro e w19 ⟨rfl, hb⟩; refine ⟨_, rfl, ?_⟩; replace BK238 := bk_ BK238 hb; replace HB := Aside0.mk (below_step (dL1_ HB GE238) hb); (try clear hb); refine hK.out _ _ ⟨(blk_cell BK238.out 0).trans rfl, (blk_cell BK238.out 1).trans rfl, (blk_cell BK238.out 2).trans rfl, (blk_cell BK238.out 3).trans rfl, (blk_cell BK238.out 4).trans rfl, (blk_cell BK238.out 5).trans rfl, ((HB.out.cell (World.block_lt_of_cell? w _ hw240_0)).trans hw240_0), ((HB.out.cell (World.block_lt_of_cell? w _ hw240_1)).trans hw240_1), ((HB.out.cell (World.block_lt_of_cell? w _ hw240_2)).trans hw240_2), ((HB.out.cell (World.block_lt_of_cell? w _ hw240_3)).trans hw240_3), ((HB.out.cell (World.block_lt_of_cell? w _ hw240_4)).trans hw240_4), ((HB.out.cell (World.block_lt_of_cell? w _ hw240_5)).trans hw240_5)⟩ (fun hHeld => ?_); clear hK K; refine norm_ (a' := ?_) ?_ ?_
            rotate_left
            ·show Act.put _ (some 28) _ = _
             simp only [Act.put, sI_, s0_, sS_, i64_w, i32_w]
             rfl
            refine pu_ (i := 14) (N := some 29) (bA 15 17) HT_ rfl ?_; refine pu_ (i := 15) (N := some 30) (bA 16 17) HT_ rfl ?_; refine pu_ (i := 16) (N := some 31) (bA 17 17) HT_ rfl ?_; refine done_ (done_of HT_.out (by kernel_rfl)) ?_
            try go_wp2
            go_meet
            case rel => exact ⟨_, (decide (t241 ≥ 0)), tS_, H', ⟨by have := HK1.out; first | omega | exact Nat.le_refl _⟩, ⟨dB_ BK238⟩, ⟨dL1_ HB GE238⟩⟩
           ·rw [if_neg c14] at H; exact absurd H (by simp)
          ·rw [if_neg c13] at H; exact absurd H (by simp)
         ·rw [if_neg c11] at H; have c11b0 : decide (0 < x10_1) = false := decide_eq_false c11; clear c11
          (first | rw [c11b0] | (simp only [i64_w, i32_w]; rw [c11b0]) | skip)
          have H' := Aside0.mk H; clear H
          try go_wp2
          generalize hW_ : ((((((w7.setCell ⟨gb238, 0, none⟩ (.int .i64 ((rd_T49 l0 x10_1).f0))).setCell ⟨gb238, 1, none⟩ (.int .i64 ((rd_T49 l0 x10_1).f1))).setCell ⟨gb238, 2, none⟩ (.int .i64 ((rd_T49 l0 x10_1).f2))).setCell ⟨gb238, 3, none⟩ (.int .i64 ((rd_T49 l0 x10_1).f3))).setCell ⟨gb238, 4, none⟩ (.int .i64 ((rd_T49 l0 x10_1).f4))).setCell ⟨gb238, 5, none⟩ (.int .i64 ((rd_T49 l0 x10_1).f5))) = w20; replace BK238 : Aside0 (w20.heap[gb238]? = some (.cells #[.int .i64 ((rd_T49 l0 x10_1).f0), .int .i64 ((rd_T49 l0 x10_1).f1), .int .i64 ((rd_T49 l0 x10_1).f2), .int .i64 ((rd_T49 l0 x10_1).f3), .int .i64 ((rd_T49 l0 x10_1).f4), .int .i64 ((rd_T49 l0 x10_1).f5)] 49 (0, 0))) := hp_ hW_ (bz_ BK238); replace HB := hb_ hW_ HB; clear hW_; replace BK238 := Aside0.mk (blk_drew BK238.out); replace HB := Aside0.mk (below_drew1 HB.out); refine start_ (n := 17) (S := fun w' => w'.cell? ⟨gb238, 0, none⟩ = some (.int .i64 ((rd_T49 l0 x10_1).f0)) ∧ w'.cell? ⟨gb238, 1, none⟩ = some (.int .i64 ((rd_T49 l0 x10_1).f1)) ∧ w'.cell? ⟨gb238, 2, none⟩ = some (.int .i64 ((rd_T49 l0 x10_1).f2)) ∧ w'.cell? ⟨gb238, 3, none⟩ = some (.int .i64 ((rd_T49 l0 x10_1).f3)) ∧ w'.cell? ⟨gb238, 4, none⟩ = some (.int .i64 ((rd_T49 l0 x10_1).f4)) ∧ w'.cell? ⟨gb238, 5, none⟩ = some (.int .i64 ((rd_T49 l0 x10_1).f5))) (ds := []) ⟨bN 17 0⟩ (by kernel_rfl) rfl rfl ⟨(blk_cell BK238.out 0).trans rfl, (blk_cell BK238.out 1).trans rfl, (blk_cell BK238.out 2).trans rfl, (blk_cell BK238.out 3).trans rfl, (blk_cell BK238.out 4).trans rfl, (blk_cell BK238.out 5).trans rfl⟩ (fun hHeld => ?_); refine with_tabW cargo_Validate.tab6 cargo_Validate.bits6 (fun HT_ HW_ => ?_)
          generalize w20.drew = w21 at BK238 HB hHeld ⊢; refine tk_ (i := 0) (N := some 15) (bA 1 17) HT_ HW_ hHeld rfl ?_; refine on_ (i := 1) (N := some 16) (bA 2 17) HT_ rfl (fun K hK => ?_); refine goes_ Try.func38 (by kernel_rfl) rfl #[.agg #[.int .i64 ((rd_T49 l0 x10_1).f0), .int .i64 ((rd_T49 l0 x10_1).f1), .int .i64 ((rd_T49 l0 x10_1).f2), .int .i64 ((rd_T49 l0 x10_1).f3), .int .i64 ((rd_T49 l0 x10_1).f4), .int .i64 ((rd_T49 l0 x10_1).f5)]] (by rfl) rfl rfl tA_ ?_
          with_reducible refine (cargo_sound.calls ((rd_T49 l0 x10_1).f0) ((rd_T49 l0 x10_1).f1) ((rd_T49 l0 x10_1).f2) ((rd_T49 l0 x10_1).f3) ((rd_T49 l0 x10_1).f4) ((rd_T49 l0 x10_1).f5) true _ A9.out).mono ?_
          rintro e w22 ⟨rfl, hb⟩; refine ⟨_, rfl, ?_⟩; replace BK238 := bk_ BK238 hb; replace HB := Aside0.mk (below_step (dL1_ HB GE238) hb); (try clear hb); refine hK.out _ _ ⟨(blk_cell BK238.out 0).trans rfl, (blk_cell BK238.out 1).trans rfl, (blk_cell BK238.out 2).trans rfl, (blk_cell BK238.out 3).trans rfl, (blk_cell BK238.out 4).trans rfl, (blk_cell BK238.out 5).trans rfl⟩ (fun hHeld => ?_); clear hK K; refine norm_ (a' := ?_) ?_ ?_
          rotate_left
          ·show Act.put _ (some 16) _ = _
           simp only [Act.put, sI_, s0_, sS_, i64_w, i32_w]
           rfl
          refine pu_ (i := 2) (N := some 17) (bA 3 17) HT_ rfl ?_; refine pu_ (i := 3) (N := some 18) (bA 4 17) HT_ rfl ?_; refine pu_ (i := 4) (N := some 19) (bA 5 17) HT_ rfl ?_; refine pu_ (i := 5) (N := some 20) (bA 6 17) HT_ rfl ?_; refine pu_ (i := 6) (N := some 21) (bA 7 17) HT_ rfl ?_; refine pn_ (i := 7) (N := some 22) (bA 8 17) HT_ rfl ?_; refine pn_ (i := 8) (N := some 23) (bA 9 17) HT_ rfl ?_; refine pn_ (i := 9) (N := some 24) (bA 10 17) HT_ rfl ?_; refine pn_ (i := 10) (N := some 25) (bA 11 17) HT_ rfl ?_; refine pn_ (i := 11) (N := some 26) (bA 12 17) HT_ rfl ?_; refine pn_ (i := 12) (N := some 27) (bA 13 17) HT_ rfl ?_; refine pn_ (i := 13) (N := some 28) (bA 14 17) HT_ rfl ?_; refine pn_ (i := 14) (N := some 29) (bA 15 17) HT_ rfl ?_; refine pu_ (i := 15) (N := some 30) (bA 16 17) HT_ rfl ?_; refine pu_ (i := 16) (N := some 31) (bA 17 17) HT_ rfl ?_; refine done_ (done_of HT_.out (by kernel_rfl)) ?_
          try go_wp2
          go_meet
          case rel => exact ⟨_, (false), tS_, H', ⟨by have := HK1.out; first | omega | exact Nat.le_refl _⟩, ⟨dB_ BK238⟩, ⟨dL1_ HB GE238⟩⟩
        ·replace c10 := Bool.eq_false_iff.mpr c10; subst c10; rw [if_neg (show ¬ (false = true) by decide)] at H; have H' := Aside0.mk H; clear H
         try go_wp2
         generalize hW_ : ((((((w7.setCell ⟨gb238, 0, none⟩ (.int .i64 ((rd_T49 l0 x10_1).f0))).setCell ⟨gb238, 1, none⟩ (.int .i64 ((rd_T49 l0 x10_1).f1))).setCell ⟨gb238, 2, none⟩ (.int .i64 ((rd_T49 l0 x10_1).f2))).setCell ⟨gb238, 3, none⟩ (.int .i64 ((rd_T49 l0 x10_1).f3))).setCell ⟨gb238, 4, none⟩ (.int .i64 ((rd_T49 l0 x10_1).f4))).setCell ⟨gb238, 5, none⟩ (.int .i64 ((rd_T49 l0 x10_1).f5))) = w23; replace BK238 : Aside0 (w23.heap[gb238]? = some (.cells #[.int .i64 ((rd_T49 l0 x10_1).f0), .int .i64 ((rd_T49 l0 x10_1).f1), .int .i64 ((rd_T49 l0 x10_1).f2), .int .i64 ((rd_T49 l0 x10_1).f3), .int .i64 ((rd_T49 l0 x10_1).f4), .int .i64 ((rd_T49 l0 x10_1).f5)] 49 (0, 0))) := hp_ hW_ (bz_ BK238); replace HB := hb_ hW_ HB; clear hW_; replace BK238 := Aside0.mk (blk_drew BK238.out); replace HB := Aside0.mk (below_drew1 HB.out); refine start_ (n := 17) (S := fun w' => w'.cell? ⟨gb238, 0, none⟩ = some (.int .i64 ((rd_T49 l0 x10_1).f0)) ∧ w'.cell? ⟨gb238, 1, none⟩ = some (.int .i64 ((rd_T49 l0 x10_1).f1)) ∧ w'.cell? ⟨gb238, 2, none⟩ = some (.int .i64 ((rd_T49 l0 x10_1).f2)) ∧ w'.cell? ⟨gb238, 3, none⟩ = some (.int .i64 ((rd_T49 l0 x10_1).f3)) ∧ w'.cell? ⟨gb238, 4, none⟩ = some (.int .i64 ((rd_T49 l0 x10_1).f4)) ∧ w'.cell? ⟨gb238, 5, none⟩ = some (.int .i64 ((rd_T49 l0 x10_1).f5))) (ds := []) ⟨bN 17 0⟩ (by kernel_rfl) rfl rfl ⟨(blk_cell BK238.out 0).trans rfl, (blk_cell BK238.out 1).trans rfl, (blk_cell BK238.out 2).trans rfl, (blk_cell BK238.out 3).trans rfl, (blk_cell BK238.out 4).trans rfl, (blk_cell BK238.out 5).trans rfl⟩ (fun hHeld => ?_); refine with_tabW cargo_Validate.tab6 cargo_Validate.bits6 (fun HT_ HW_ => ?_)
         generalize w23.drew = w24 at BK238 HB hHeld ⊢; refine tk_ (i := 0) (N := some 15) (bA 1 17) HT_ HW_ hHeld rfl ?_; refine on_ (i := 1) (N := some 16) (bA 2 17) HT_ rfl (fun K hK => ?_); refine goes_ Try.func38 (by kernel_rfl) rfl #[.agg #[.int .i64 ((rd_T49 l0 x10_1).f0), .int .i64 ((rd_T49 l0 x10_1).f1), .int .i64 ((rd_T49 l0 x10_1).f2), .int .i64 ((rd_T49 l0 x10_1).f3), .int .i64 ((rd_T49 l0 x10_1).f4), .int .i64 ((rd_T49 l0 x10_1).f5)]] (by rfl) rfl rfl tA_ ?_
         with_reducible refine (cargo_sound.calls ((rd_T49 l0 x10_1).f0) ((rd_T49 l0 x10_1).f1) ((rd_T49 l0 x10_1).f2) ((rd_T49 l0 x10_1).f3) ((rd_T49 l0 x10_1).f4) ((rd_T49 l0 x10_1).f5) false _ A9.out).mono ?_
         rintro e w25 ⟨rfl, hb⟩; refine ⟨_, rfl, ?_⟩; replace BK238 := bk_ BK238 hb; replace HB := Aside0.mk (below_step (dL1_ HB GE238) hb); (try clear hb); refine hK.out _ _ ⟨(blk_cell BK238.out 0).trans rfl, (blk_cell BK238.out 1).trans rfl, (blk_cell BK238.out 2).trans rfl, (blk_cell BK238.out 3).trans rfl, (blk_cell BK238.out 4).trans rfl, (blk_cell BK238.out 5).trans rfl⟩ (fun hHeld => ?_); clear hK K; refine norm_ (a' := ?_) ?_ ?_
         rotate_left
         ·show Act.put _ (some 16) _ = _
          simp only [Act.put, sI_, s0_, sS_, i64_w, i32_w]
          rfl
         refine pu_ (i := 2) (N := some 17) (bA 3 17) HT_ rfl ?_; refine pu_ (i := 3) (N := some 18) (bA 4 17) HT_ rfl ?_; refine pn_ (i := 4) (N := some 19) (bA 5 17) HT_ rfl ?_; refine pn_ (i := 5) (N := some 20) (bA 6 17) HT_ rfl ?_; refine pn_ (i := 6) (N := some 21) (bA 7 17) HT_ rfl ?_; refine pn_ (i := 7) (N := some 22) (bA 8 17) HT_ rfl ?_; refine pn_ (i := 8) (N := some 23) (bA 9 17) HT_ rfl ?_; refine pn_ (i := 9) (N := some 24) (bA 10 17) HT_ rfl ?_; refine pn_ (i := 10) (N := some 25) (bA 11 17) HT_ rfl ?_; refine pn_ (i := 11) (N := some 26) (bA 12 17) HT_ rfl ?_; refine pn_ (i := 12) (N := some 27) (bA 13 17) HT_ rfl ?_; refine pn_ (i := 13) (N := some 28) (bA 14 17) HT_ rfl ?_; refine pn_ (i := 14) (N := some 29) (bA 15 17) HT_ rfl ?_; refine pn_ (i := 15) (N := some 30) (bA 16 17) HT_ rfl ?_; refine pu_ (i := 16) (N := some 31) (bA 17 17) HT_ rfl ?_; refine done_ (done_of HT_.out (by kernel_rfl)) ?_
         try go_wp2
         go_meet
         case rel => exact ⟨_, (true), tS_, H', ⟨by have := HK1.out; first | omega | exact Nat.le_refl _⟩, ⟨dB_ BK238⟩, ⟨dL1_ HB GE238⟩⟩
       case rest =>
        clear HC6; (try clear c2); (try clear c2b0); (try clear c2b1); (try clear c3); (try clear c3b0); (try clear c4); (try clear c4b0); (try clear c5); (try clear c5b0); (try clear c11); (try clear c13); (try clear c14); (try clear z8a z8b z8c z8d z8e z8f y8a y8b y8c y8d y8e y8f); (try clear hx237_0); (try clear hx237_1); (try clear hx237_2); (try clear hx237_3); (try clear hx237_4); (try clear hx237_5); (try clear p237); (try clear q237); obtain ⟨kq, x31_5, rfl, HA, HJ5, BK238, HB⟩ := hcut
        cases kq with
        | zero => exact absurd HA.out (by simp [cargo_Validate.j1])
        | succ kj5 =>
         have H := HA.out; clear HA; simp only [cargo_Validate.j1] at H
         by_cases c26 : x31_5 = true
         ·subst c26; rw [if_pos rfl] at H; obtain rfl := Option.some.inj H; go_wp2
          go_ret
          exact ⟨tE_, dL1_ HB GE238⟩
         ·replace c26 := Bool.eq_false_iff.mpr c26; subst c26; rw [if_neg (show ¬ (false = true) by decide)] at H; have H' := Aside0.mk H; clear H; go_wp2
          go_roundg kj5
          case measure => have := HK1.out; have := HJ5.out; omega
          case rel => exact ⟨(wrap64 (x10_1 + 1)), tS_, H', ⟨by have := HK1.out; have := HJ5.out; omega⟩, ⟨dL1_ HB GE238⟩⟩
      ·rw [if_neg c5] at H; exact absurd H (by simp)
     ·rw [if_neg c4] at H; exact absurd H (by simp)
    ·rw [if_neg c3] at H; have c3b0 : decide (x10_1 < (l0.length : Int)) = false := decide_eq_false c3; clear c3; obtain rfl := Option.some.inj H; go_wp2
     go_ret
     exact ⟨tE_, dL_ HB⟩

end Go.Proofs.Ytgnahbjpockdmab.Q
namespace Go.Proofs.Ytgnahbjpockdmab.Q
open Go.RowKit Go.Proofs.YtgnahbjpockdmabPrs Go.Proofs.YtgnahbjpockdmabOwn Go.Proofs.YtgnahbjpockdmabW.PrintWords Go.Proofs.YtgnahbjpockdmabW.PrintLast Go.Proofs.YtgnahbjpockdmabW.PrintMore
attribute [local go_sem] max2_int min2_int max_two min_two max_three min_three max_four min_four   -- for this text's walks alone
set_option linter.unusedVariables false
set_option linter.unusedSimpArgs false

/-! ### fleet_fit: function 20 -/
def fleet_fit.f (a0_0 : ByteArray) (a0_1 : Int) (a0_2 : Int) (a0_3 : Int) (a0_4 : Int) (a0_5 : Int) (a0_6 : Int) (a0_7 : Int) (a0_8 : Int) (a0_9 : Int) (a0_10 : Int) (a0_11 : Int) (a0_12 : Int) (a0_13 : Bool) : Option (Int) := if a0_7 = 0 then (some (-1)) else (some a0_6)
set_option maxHeartbeats 8000000 in
set_option maxRecDepth 100000 in
theorem fleet_fit.calls (a0_0 : ByteArray) (a0_1 : Int) (a0_2 : Int) (a0_3 : Int) (a0_4 : Int) (a0_5 : Int) (a0_6 : Int) (a0_7 : Int) (a0_8 : Int) (a0_9 : Int) (a0_10 : Int) (a0_11 : Int) (a0_12 : Int) (a0_13 : Bool) (r : Int) (w : World) (h : fleet_fit.f a0_0 a0_1 a0_2 a0_3 a0_4 a0_5 a0_6 a0_7 a0_8 a0_9 a0_10 a0_11 a0_12 a0_13 = some r) :
    Calls Try.prog 20 #[.agg #[.string a0_0, .int .i64 a0_1, .int .i64 a0_2, .int .i64 a0_3, .int .i64 a0_4, .int .i64 a0_5, .int .i64 a0_6, .int .i64 a0_7, .int .i64 a0_8, .int .i64 a0_9, .int .i64 a0_10, .int .i64 a0_11, .int .i64 a0_12, .bool a0_13]] w fun e w' => e = .returned (.int .i64 r) ∧ Below w.heap.size w w' := by
 have hu52 := Try.underlying52; have HB := Aside0.mk (Below.refl w.heap.size w); have H : (if a0_7 = 0 then (some (-1)) else (some a0_6)) = some r := h; clear h
 by_cases c2 : a0_7 = 0
 ·rw [if_pos c2] at H; have c2b0 : (a0_7 == 0) = true := beq_iff_eq.mpr c2; have c2b1 : (a0_7 != 0) = false := bne_eq_false_iff_eq.mpr c2; clear c2; obtain rfl := Option.some.inj H
  go_enter Try.func20, Try.ntmps20
  go_wp2_with (first | ((with_reducible refine gate_dst (N := 1) rfl ?_); refine bx_ (N := 1) (cs := #[.string a0_0, .int .i64 a0_1, .int .i64 a0_2, .int .i64 a0_3, .int .i64 a0_4, .int .i64 a0_5, .int .i64 a0_6, .int .i64 a0_7, .int .i64 a0_8, .int .i64 a0_9, .int .i64 a0_10, .int .i64 a0_11, .int .i64 a0_12, .bool a0_13]) (t := 52) ?_; intro gb272 hg w3 hbox hb; have BK272 := Aside0.mk (hbox); have GW272 := Aside0.mk ((dS_ hg (dL_ HB) : w.heap.size ≤ gb272)); have GE272 := GW272; replace HB := Aside0.mk (below_step (dL_ HB) hb); clear hb hbox hg; obtain ⟨z4a, z4b, z4c, z4d, z4e, z4f, z4g, z4h, z4i, z4j, z4k, z4l, z4m, z4n, y4a, y4b, y4c, y4d, y4e, y4f, y4g, y4h, y4i, y4j, y4k, y4l, y4m, y4n⟩ := cs14_ BK272.out))
  go_ret
  exact ⟨tE_, dL1_ HB GE272⟩
 ·rw [if_neg c2] at H; have c2b0 : (a0_7 == 0) = false := beq_eq_false_iff_ne.mpr c2; have c2b1 : (a0_7 != 0) = true := bne_iff_ne.mpr c2; obtain rfl := Option.some.inj H
  go_enter Try.func20, Try.ntmps20
  go_wp2_with (first | ((with_reducible refine gate_dst (N := 1) rfl ?_); refine bx_ (N := 1) (cs := #[.string a0_0, .int .i64 a0_1, .int .i64 a0_2, .int .i64 a0_3, .int .i64 a0_4, .int .i64 a0_5, .int .i64 a0_6, .int .i64 a0_7, .int .i64 a0_8, .int .i64 a0_9, .int .i64 a0_10, .int .i64 a0_11, .int .i64 a0_12, .bool a0_13]) (t := 52) ?_; intro gb272 hg w5 hbox hb; have BK272 := Aside0.mk (hbox); have GW272 := Aside0.mk ((dS_ hg (dL_ HB) : w.heap.size ≤ gb272)); have GE272 := GW272; replace HB := Aside0.mk (below_step (dL_ HB) hb); clear hb hbox hg; obtain ⟨z6a, z6b, z6c, z6d, z6e, z6f, z6g, z6h, z6i, z6j, z6k, z6l, z6m, z6n, y6a, y6b, y6c, y6d, y6e, y6f, y6g, y6h, y6i, y6j, y6k, y6l, y6m, y6n⟩ := cs14_ BK272.out))
  go_ret
  exact ⟨tE_, dL1_ HB GE272⟩

/-! ### fleet_worth: function 21 -/
def fleet_worth.f (a0_0 : ByteArray) (a0_1 : Int) (a0_2 : Int) (a0_3 : Int) (a0_4 : Int) (a0_5 : Int) (a0_6 : Int) (a0_7 : Int) (a0_8 : Int) (a0_9 : Int) (a0_10 : Int) (a0_11 : Int) (a0_12 : Int) (a0_13 : Bool) (a1 : Int) : Option (Int) := if (wrap64 (730 * a0_11)) = 0 then (none) else (some (wrap64 (Int.tdiv (wrap64 (a0_9 * (mx (wrap64 ((wrap64 (730 * a0_11)) - a1)) 0))) (wrap64 (730 * a0_11)))))
set_option maxHeartbeats 8000000 in
set_option maxRecDepth 100000 in
theorem fleet_worth.calls (a0_0 : ByteArray) (a0_1 : Int) (a0_2 : Int) (a0_3 : Int) (a0_4 : Int) (a0_5 : Int) (a0_6 : Int) (a0_7 : Int) (a0_8 : Int) (a0_9 : Int) (a0_10 : Int) (a0_11 : Int) (a0_12 : Int) (a0_13 : Bool) (a1 : Int) (r : Int) (w : World) (h : fleet_worth.f a0_0 a0_1 a0_2 a0_3 a0_4 a0_5 a0_6 a0_7 a0_8 a0_9 a0_10 a0_11 a0_12 a0_13 a1 = some r) :
    Calls Try.prog 21 #[.agg #[.string a0_0, .int .i64 a0_1, .int .i64 a0_2, .int .i64 a0_3, .int .i64 a0_4, .int .i64 a0_5, .int .i64 a0_6, .int .i64 a0_7, .int .i64 a0_8, .int .i64 a0_9, .int .i64 a0_10, .int .i64 a0_11, .int .i64 a0_12, .bool a0_13], .int .i64 a1] w fun e w' => e = .returned (.int .i64 r) ∧ Below w.heap.size w w' := by
 have hu52 := Try.underlying52; have HB := Aside0.mk (Below.refl w.heap.size w); have H : (if (wrap64 (730 * a0_11)) = 0 then (none) else (some (wrap64 (Int.tdiv (wrap64 (a0_9 * (mx (wrap64 ((wrap64 (730 * a0_11)) - a1)) 0))) (wrap64 (730 * a0_11)))))) = some r := h; clear h; obtain ⟨ji3, hji3⟩ : ∃ j_ : Int, (mx (wrap64 ((wrap64 (730 * a0_11)) - a1)) 0) = j_ := ⟨_, rfl⟩; replace H : (if (wrap64 (730 * a0_11)) = 0 then (none) else (some (wrap64 (Int.tdiv (wrap64 (a0_9 * (ji3))) (wrap64 (730 * a0_11)))))) = some r := by first | (rw [hji3] at H; exact H) | (simp only [hji3] at H ⊢; exact H)
 (try (have hji3l : 0 ≤ ji3 := by (rw [← hji3]; unfold mx; (repeat' split) <;> omega))); (try (have hji3m : 0 ≤ ji3 := by omega)); have hji3_ : (if (wrap64 ((wrap64 (730 * a0_11)) - a1)) < 0 then 0 else (wrap64 ((wrap64 (730 * a0_11)) - a1))) = ji3 := hji3
 by_cases c4 : (wrap64 (730 * a0_11)) = 0
 ·rw [if_pos c4] at H; exact absurd H (by simp)
 ·rw [if_neg c4] at H; have c4b0 : ((wrap64 (730 * a0_11)) == 0) = false := beq_eq_false_iff_ne.mpr c4; have c4b1 : ((wrap64 (730 * a0_11)) != 0) = true := bne_iff_ne.mpr c4; obtain rfl := Option.some.inj H
  go_enter Try.func21, Try.ntmps21
  go_wp2_with (first | ((with_reducible refine gate_dst (N := 2) rfl ?_); refine bx_ (N := 2) (cs := #[.string a0_0, .int .i64 a0_1, .int .i64 a0_2, .int .i64 a0_3, .int .i64 a0_4, .int .i64 a0_5, .int .i64 a0_6, .int .i64 a0_7, .int .i64 a0_8, .int .i64 a0_9, .int .i64 a0_10, .int .i64 a0_11, .int .i64 a0_12, .bool a0_13]) (t := 52) ?_; intro gb273 hg w5 hbox hb; have BK273 := Aside0.mk (hbox); have GW273 := Aside0.mk ((dS_ hg (dL_ HB) : w.heap.size ≤ gb273)); have GE273 := GW273; replace HB := Aside0.mk (below_step (dL_ HB) hb); clear hb hbox hg; obtain ⟨z6a, z6b, z6c, z6d, z6e, z6f, z6g, z6h, z6i, z6j, z6k, z6l, z6m, z6n, y6a, y6b, y6c, y6d, y6e, y6f, y6g, y6h, y6i, y6j, y6k, y6l, y6m, y6n⟩ := cs14_ BK273.out))
  go_ret
  exact ⟨by first | rfl | (simp [errW_none, errW_some] <;> rfl) | (simp only [← hji3]; first | rfl | (simp [errW_none, errW_some] <;> rfl)) | (simp [*, errW_none, errW_some] <;> rfl), dL1_ HB GE273⟩

end Go.Proofs.Ytgnahbjpockdmab.Q
namespace Go.Proofs.Ytgnahbjpockdmab.Q
open Go.RowKit Go.Proofs.YtgnahbjpockdmabPrs Go.Proofs.YtgnahbjpockdmabOwn Go.Proofs.YtgnahbjpockdmabW.PrintWords Go.Proofs.YtgnahbjpockdmabW.PrintLast Go.Proofs.YtgnahbjpockdmabW.PrintMore
attribute [local go_sem] max2_int min2_int max_two min_two max_three min_three max_four min_four   -- for this text's walks alone
set_option linter.unusedVariables false
set_option linter.unusedSimpArgs false

/-! ### hinterlandref14_within: function 35 -/
def hinterlandref14_within.f (a0 : Int) (a1 : Int) (a2 : Int) : Option (Bool) := if a0 ≥ a1 then (some (decide (a0 ≤ a2))) else (some false)
set_option maxHeartbeats 8000000 in
set_option maxRecDepth 100000 in
theorem hinterlandref14_within.calls (a0 : Int) (a1 : Int) (a2 : Int) (r : Bool) (w : World) (h : hinterlandref14_within.f a0 a1 a2 = some r) :
    Calls Try.prog 35 #[.int .i64 a0, .int .i64 a1, .int .i64 a2] w fun e w' => e = .returned (.bool r) ∧ Drawn0 w w' := by
 have H : (if a0 ≥ a1 then (some (decide (a0 ≤ a2))) else (some false)) = some r := h; clear h
 by_cases c4 : a0 ≥ a1
 ·rw [if_pos c4] at H; have c4b0 : decide (a1 ≤ a0) = true := decide_eq_true c4; clear c4; obtain rfl := Option.some.inj H
  go_enter Try.func35, Try.ntmps35
  go_wp2
  go_ret
  exact ⟨tS_, by repeat (first | exact Drawn0.refl _ | apply Drawn0.step)⟩
 ·rw [if_neg c4] at H; have c4b0 : decide (a1 ≤ a0) = false := decide_eq_false c4; clear c4; obtain rfl := Option.some.inj H
  go_enter Try.func35, Try.ntmps35
  go_wp2
  go_ret
  exact ⟨tS_, by repeat (first | exact Drawn0.refl _ | apply Drawn0.step)⟩

end Go.Proofs.Ytgnahbjpockdmab.Q
namespace Go.Proofs.Ytgnahbjpockdmab.Q
open Go.RowKit Go.Proofs.YtgnahbjpockdmabPrs Go.Proofs.YtgnahbjpockdmabOwn Go.Proofs.YtgnahbjpockdmabW.PrintWords Go.Proofs.YtgnahbjpockdmabW.PrintLast Go.Proofs.YtgnahbjpockdmabW.PrintMore
attribute [local go_sem] max2_int min2_int max_two min_two max_three min_three max_four min_four   -- for this text's walks alone
set_option linter.unusedVariables false
set_option linter.unusedSimpArgs false

/-! ### hinterlandref10_Named: function 56 -/
mutual
def hinterlandref10_Named.j0 : Nat → ByteArray → Bool → Option (Bool)
  | 0, _, _ => none
  | k + 1, x0, x11 => if x11 = true then (some false) else (hinterlandref10_Named.l0 k x0 0)
def hinterlandref10_Named.l0 : Nat → ByteArray → Int → Option (Bool)
  | 0, _, _ => none
  | k + 1, x0, x3 => if x3 < (x0.size : Int) then (if 0 ≤ x3 then (if (bt x0 x3) < 97 then (hinterlandref10_Named.j2 k x0 x3 true) else (hinterlandref10_Named.j2 k x0 x3 (decide ((bt x0 x3) > 122)))) else (none)) else (some true)
def hinterlandref10_Named.j2 : Nat → ByteArray → Int → Bool → Option (Bool)
  | 0, _, _, _ => none
  | k + 1, x0, x3, x27 => if x27 = true then (some false) else (hinterlandref10_Named.l0 k x0 (wrap64 (x3 + 1)))
end
def hinterlandref10_Named.f (k : Nat) (a0 : ByteArray) : Option (Bool) := if (a0.size : Int) < 1 then (hinterlandref10_Named.j0 k a0 true) else (hinterlandref10_Named.j0 k a0 (decide ((a0.size : Int) > 12)))
theorem hinterlandref10_Named.mono_l : ∀ k, (∀ y0 y1, LeO (hinterlandref10_Named.j0 k y0 y1) (hinterlandref10_Named.j0 (k + 1) y0 y1)) ∧ (∀ y0 y1, LeO (hinterlandref10_Named.l0 k y0 y1) (hinterlandref10_Named.l0 (k + 1) y0 y1)) ∧ (∀ y0 y1 y2, LeO (hinterlandref10_Named.j2 k y0 y1 y2) (hinterlandref10_Named.j2 (k + 1) y0 y1 y2))
  | 0 => ⟨fun _ _ r h => by simp [hinterlandref10_Named.j0] at h, fun _ _ r h => by simp [hinterlandref10_Named.l0] at h, fun _ _ _ r h => by simp [hinterlandref10_Named.j2] at h⟩
  | k + 1 => by
    obtain ⟨ih0, ih1, ih2⟩ := hinterlandref10_Named.mono_l k; refine ⟨?_, ?_, ?_⟩
    · intro y0 y1
      unfold hinterlandref10_Named.j0
      repeat' first
      | (with_reducible first | apply ih0 | apply ih1 | apply ih2 | exact LeO.refl _ | exact LeO.none _ | refine LeO.ite ?_ ?_ | refine LeO.bind ?_ (fun _ => ?_))
    · intro y0 y1
      unfold hinterlandref10_Named.l0
      repeat' first
      | (with_reducible first | apply ih0 | apply ih1 | apply ih2 | exact LeO.refl _ | exact LeO.none _ | refine LeO.ite ?_ ?_ | refine LeO.bind ?_ (fun _ => ?_))
    · intro y0 y1 y2
      unfold hinterlandref10_Named.j2
      repeat' first
      | (with_reducible first | apply ih0 | apply ih1 | apply ih2 | exact LeO.refl _ | exact LeO.none _ | refine LeO.ite ?_ ?_ | refine LeO.bind ?_ (fun _ => ?_))
theorem hinterlandref10_Named.mono : ∀ a0 k, LeO (hinterlandref10_Named.f k a0) (hinterlandref10_Named.f (k + 1) a0) := by
  intro a0 k; obtain ⟨ih0, ih1, ih2⟩ := hinterlandref10_Named.mono_l k
  unfold hinterlandref10_Named.f
  repeat' first
      | (with_reducible first | apply ih0 | apply ih1 | apply ih2 | exact LeO.refl _ | exact LeO.none _ | refine LeO.ite ?_ ?_ | refine LeO.bind ?_ (fun _ => ?_))
set_option maxHeartbeats 8000000 in
set_option maxRecDepth 100000 in
theorem hinterlandref10_Named.calls (k : Nat) (a0 : ByteArray) (r : Bool) (w : World) (h : hinterlandref10_Named.f k a0 = some r) :
    Calls Try.prog 56 #[.string a0] w fun e w' => e = .returned (.bool r) ∧ Drawn0 w w' := by
 have H : (if (a0.size : Int) < 1 then (hinterlandref10_Named.j0 k a0 true) else (hinterlandref10_Named.j0 k a0 (decide ((a0.size : Int) > 12)))) = some r := h; clear h; have HC2 := Aside0.mk H; clear H
 go_enter Try.func56, Try.ntmps56
 go_upto_region 1 with (fail)
 go_cut [11] (fun v11 wc => ∃ (kq : Nat) (x11_1 : Bool), v11 = .bool x11_1 ∧ Aside0 (hinterlandref10_Named.j0 kq a0 x11_1 = some r) ∧ Aside0 (kq ≤ k) ∧ Drawn0 w wc)
 case first =>
  have H := HC2.out; clear HC2
  by_cases c3 : (a0.size : Int) < 1
  ·rw [if_pos c3] at H; have c3b0 : decide ((a0.size : Int) < 1) = true := decide_eq_true c3; have c3b1 : decide (a0.size < 1) = true := decide_eq_true (by omega); clear c3
   (first | rw [c3b0] | (simp only [i64_w, i32_w]; rw [c3b0]) | skip)
   have H' := Aside0.mk H; clear H; go_wp2
   go_meet
   case rel => exact ⟨_, (true), tS_, H', ⟨by first | omega | exact Nat.le_refl _⟩, by repeat (first | exact Drawn0.refl _ | apply Drawn0.step)⟩
  ·rw [if_neg c3] at H; have c3b0 : decide ((a0.size : Int) < 1) = false := decide_eq_false c3; have c3b1 : decide (a0.size < 1) = false := decide_eq_false (by omega); clear c3
   (first | rw [c3b0] | (simp only [i64_w, i32_w]; rw [c3b0]) | skip)
   have H' := Aside0.mk H; clear H; go_wp2
   go_meet
   case rel => exact ⟨_, (decide ((a0.size : Int) > 12)), tS_, H', ⟨by first | omega | exact Nat.le_refl _⟩, by repeat (first | exact Drawn0.refl _ | apply Drawn0.step)⟩
 case rest =>
  clear HC2; (try clear c3); obtain ⟨kq, x11_1, rfl, HA, HJ1, ⟨mc1, rfl⟩⟩ := hcut
  cases kq with
  | zero => exact absurd HA.out (by simp [hinterlandref10_Named.j0])
  | succ kj1 =>
   have H := HA.out; clear HA; simp only [hinterlandref10_Named.j0] at H
   by_cases c4 : x11_1 = true
   ·subst c4; rw [if_pos rfl] at H; obtain rfl := Option.some.inj H; go_wp2
    go_ret
    exact ⟨tS_, by repeat (first | exact Drawn0.refl _ | apply Drawn0.step)⟩
   ·replace c4 := Bool.eq_false_iff.mpr c4; subst c4; rw [if_neg (show ¬ (false = true) by decide)] at H; have H' := Aside0.mk H; clear H; go_wp2
    go_loopg [3] kj1 (fun kq v3 w' => ∃ (x3_2 : Int), v3 = .int .i64 x3_2 ∧ Aside0 (hinterlandref10_Named.l0 kq a0 x3_2 = some r) ∧ Aside0 (kq ≤ kj1) ∧ Drawn0 w w')
    case atStart => exact ⟨(0), tS_, H', ⟨Nat.le_refl _⟩, by repeat (first | exact Drawn0.refl _ | apply Drawn0.step)⟩
    case round =>
     clear H'; (try clear c3); (try clear c4); obtain ⟨x3_2, rfl, HA, HK2, ⟨m2, rfl⟩⟩ := hrel
     cases gk with
     | zero => exact absurd HA.out (by simp [hinterlandref10_Named.l0])
     | succ k2 =>
      have H := HA.out; clear HA; simp only [hinterlandref10_Named.l0] at H
      by_cases c5 : x3_2 < (a0.size : Int)
      ·rw [if_pos c5] at H; have c5b0 : decide (x3_2 < (a0.size : Int)) = true := decide_eq_true c5; clear c5; have HC6 := Aside0.mk H; clear H
       go_upto_region 6 with (fail)
       go_cut [27] (fun v27 wc => ∃ (kq : Nat) (x27_5 : Bool), v27 = .bool x27_5 ∧ Aside0 (hinterlandref10_Named.j2 kq a0 x3_2 x27_5 = some r) ∧ Aside0 (kq ≤ k2) ∧ Drawn0 w wc)
       case first =>
        have H := HC6.out; clear HC6
        by_cases c7 : 0 ≤ x3_2
        ·rw [if_pos c7] at H; have c7b0 : decide (0 ≤ x3_2) = true := decide_eq_true c7; clear c7
         (first | rw [c7b0] | (simp only [i64_w, i32_w]; rw [c7b0]) | skip)
         by_cases c9 : (bt a0 x3_2) < 97
         ·rw [if_pos c9] at H; have c9b0 : decide ((bt a0 x3_2) < 97) = true := decide_eq_true c9; clear c9; have H' := Aside0.mk H; clear H; have p8 : 0 ≤ (x3_2 : Int) := of_decide_eq_true tW_; have q8 : x3_2 < (a0.size : Int) := of_decide_eq_true tW_; have hx8 := bt_at a0 x3_2; replace p8 := eq_true p8; replace q8 := eq_true q8; go_wp2
          go_meet
          case rel => exact ⟨_, (true), tS_, H', ⟨by have := HJ1.out; have := HK2.out; first | omega | exact Nat.le_refl _⟩, by repeat (first | exact Drawn0.refl _ | apply Drawn0.step)⟩
         ·rw [if_neg c9] at H; have c9b0 : decide ((bt a0 x3_2) < 97) = false := decide_eq_false c9; clear c9; have H' := Aside0.mk H; clear H; have p8 : 0 ≤ (x3_2 : Int) := of_decide_eq_true tW_; have q8 : x3_2 < (a0.size : Int) := of_decide_eq_true tW_; have hx8 := bt_at a0 x3_2; replace p8 := eq_true p8; replace q8 := eq_true q8; have p10 : 0 ≤ (x3_2 : Int) := of_decide_eq_true tW_; have q10 : x3_2 < (a0.size : Int) := of_decide_eq_true tW_; have hx10 := bt_at a0 x3_2; replace p10 := eq_true p10; replace q10 := eq_true q10; go_wp2
          go_meet
          case rel => exact ⟨_, (decide ((bt a0 x3_2) > 122)), tS_, H', ⟨by have := HJ1.out; have := HK2.out; first | omega | exact Nat.le_refl _⟩, by repeat (first | exact Drawn0.refl _ | apply Drawn0.step)⟩
        ·rw [if_neg c7] at H; exact absurd H (by simp)
       case rest =>
        clear HC6; (try clear c3); (try clear c4); (try clear c5); (try clear c5b0); (try clear c7); (try clear c9); obtain ⟨kq, x27_5, rfl, HA, HJ5, ⟨mc5, rfl⟩⟩ := hcut
        cases kq with
        | zero => exact absurd HA.out (by simp [hinterlandref10_Named.j2])
        | succ kj5 =>
         have H := HA.out; clear HA; simp only [hinterlandref10_Named.j2] at H
         by_cases c11 : x27_5 = true
         ·subst c11; rw [if_pos rfl] at H; obtain rfl := Option.some.inj H; go_wp2
          go_ret
          exact ⟨tS_, by repeat (first | exact Drawn0.refl _ | apply Drawn0.step)⟩
         ·replace c11 := Bool.eq_false_iff.mpr c11; subst c11; rw [if_neg (show ¬ (false = true) by decide)] at H; have H' := Aside0.mk H; clear H; go_wp2
          go_roundg kj5
          case measure => have := HJ1.out; have := HK2.out; have := HJ5.out; omega
          case rel => exact ⟨(wrap64 (x3_2 + 1)), tS_, H', ⟨by have := HJ1.out; have := HK2.out; have := HJ5.out; omega⟩, by repeat (first | exact Drawn0.refl _ | apply Drawn0.step)⟩
      ·rw [if_neg c5] at H; have c5b0 : decide (x3_2 < (a0.size : Int)) = false := decide_eq_false c5; clear c5; obtain rfl := Option.some.inj H; go_wp2
       go_ret
       exact ⟨tS_, by repeat (first | exact Drawn0.refl _ | apply Drawn0.step)⟩

end Go.Proofs.Ytgnahbjpockdmab.Q
