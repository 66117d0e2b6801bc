-- PRINTED by print.py (a twelfth state) out of the translation. Not trusted: Lean checks it.
import Derived.Test.YtnkgelnkoljgdaaPrs
import Derived.Test.YtnkgelnkoljgdaaQ0
import Derived.Test.YtnkgelnkoljgdaaQ16
import Derived.Test.YtnkgelnkoljgdaaQ19
import Derived.Test.YtnkgelnkoljgdaaQ20
namespace Go.Proofs.Ytnkgelnkoljgdaa.Q
open Go.RowKit Go.Proofs.YtnkgelnkoljgdaaPrs Go.Proofs.YtnkgelnkoljgdaaOwn Go.Proofs.YtnkgelnkoljgdaaW.PrintWords Go.Proofs.YtnkgelnkoljgdaaW.PrintLast Go.Proofs.YtnkgelnkoljgdaaW.PrintMore
attribute [local go_sem] max2_int min2_int max_two min_two max_three min_three max_four min_four   -- for this text's walks alone
set_option linter.unusedVariables false
set_option linter.unusedSimpArgs false

/-! ### hinterlandref10_Chains: function 29 -/
mutual
def hinterlandref10_Chains.l0 : Nat → Int → List Int → List Int → List (S39) → Int → Int → Option (List Int × List Int × Int)
  | 0, _, _, _, _, _, _ => none
  | k + 1, x1, x8, x9, x22, x23, x24 => if x24 < x23 then (if 0 ≤ x24 then (if x24 < (x22.length : Int) then ((hinterlandref10_Takes.f k ((rd_T39 x22 x24).f0) ((rd_T39 x22 x24).f1) ((rd_T39 x22 x24).f2) x1).bind fun t274 => (if t274 = true then (if x8.length < 17592186044416 then (hinterlandref10_Chains.j1 k x1 (x8 ++ [x24]) x9 x24 x22 x23 x24 ((rd_T39 x22 x24).f0) ((rd_T39 x22 x24).f1) ((rd_T39 x22 x24).f2)) else (none)) else (hinterlandref10_Chains.j1 k x1 x8 x9 x24 x22 x23 x24 ((rd_T39 x22 x24).f0) ((rd_T39 x22 x24).f1) ((rd_T39 x22 x24).f2)))) else (none)) else (none)) else (some (x8, x9, 0))
def hinterlandref10_Chains.j1 : Nat → Int → List Int → List Int → Int → List (S39) → Int → Int → ByteArray → List Int → List (S41) → Option (List Int × List Int × Int)
  | 0, _, _, _, _, _, _, _, _, _, _ => none
  | k + 1, x1, x8, x9, x10, x22, x23, x24, x274000, x274001, x274002 => hinterlandref10_Chains.l1 k x1 x8 x9 x10 x22 x23 x24 x274002 (x274002.length : Int) 0
def hinterlandref10_Chains.l1 : Nat → Int → List Int → List Int → Int → List (S39) → Int → Int → List (S41) → Int → Int → Option (List Int × List Int × Int)
  | 0, _, _, _, _, _, _, _, _, _, _ => none
  | k + 1, x1, x8, x9, x10, x22, x23, x24, x37, x38, x39 => if x39 < x38 then (if 0 ≤ x39 then (if x39 < (x37.length : Int) then (if ((rd_T41 x37 x39).f0) = x1 then (if x9.length < 17592186044416 then (hinterlandref10_Chains.l1 k x1 x8 (x9 ++ [x10]) x10 x22 x23 x24 x37 x38 (wrap64 (x39 + 1))) else (none)) else (hinterlandref10_Chains.l1 k x1 x8 x9 x10 x22 x23 x24 x37 x38 (wrap64 (x39 + 1)))) else (none)) else (none)) else (hinterlandref10_Chains.l0 k x1 x8 x9 x22 x23 (wrap64 (x24 + 1)))
end
def hinterlandref10_Chains.f (k : Nat) (l0 : List (S39)) (a1 : Int) : Option (List Int × List Int × Int) := (hinterlandref10_ValidateKinds.f k l0).bind fun t270 => (if t270 = 0 then ((hinterlandref10_within.f a1 0 15).bind fun t271 => (if t271 = true then (hinterlandref10_Chains.l0 k a1 ([] : List Int) ([] : List Int) l0 (l0.length : Int) 0) else (some (([] : List Int), ([] : List Int), 1)))) else (some (([] : List Int), ([] : List Int), t270)))
theorem hinterlandref10_Chains.mono_l : ∀ k, (∀ y0 y1 y2 y3 y4 y5, LeO (hinterlandref10_Chains.l0 k y0 y1 y2 y3 y4 y5) (hinterlandref10_Chains.l0 (k + 1) y0 y1 y2 y3 y4 y5)) ∧ (∀ y0 y1 y2 y3 y4 y5 y6 y7 y8 y9, LeO (hinterlandref10_Chains.j1 k y0 y1 y2 y3 y4 y5 y6 y7 y8 y9) (hinterlandref10_Chains.j1 (k + 1) y0 y1 y2 y3 y4 y5 y6 y7 y8 y9)) ∧ (∀ y0 y1 y2 y3 y4 y5 y6 y7 y8 y9, LeO (hinterlandref10_Chains.l1 k y0 y1 y2 y3 y4 y5 y6 y7 y8 y9) (hinterlandref10_Chains.l1 (k + 1) y0 y1 y2 y3 y4 y5 y6 y7 y8 y9))
  | 0 => ⟨fun _ _ _ _ _ _ r h => by simp [hinterlandref10_Chains.l0] at h, fun _ _ _ _ _ _ _ _ _ _ r h => by simp [hinterlandref10_Chains.j1] at h, fun _ _ _ _ _ _ _ _ _ _ r h => by simp [hinterlandref10_Chains.l1] at h⟩
  | k + 1 => by
    obtain ⟨ih0, ih1, ih2⟩ := hinterlandref10_Chains.mono_l k
    refine ⟨?_, ?_, ?_⟩
    · intro y0 y1 y2 y3 y4 y5
      unfold hinterlandref10_Chains.l0
      repeat' first
      | (with_reducible first | exact ih0 _ _ _ _ _ _ | exact ih1 _ _ _ _ _ _ _ _ _ _ | exact ih2 _ _ _ _ _ _ _ _ _ _ | exact hinterlandref10_Takes.mono _ _ _ _ _ | exact hinterlandref10_ValidateKinds.mono _ _ | exact LeO.refl _ | exact LeO.none _ | refine LeO.ite ?_ ?_ | refine LeO.bind ?_ (fun _ => ?_))
      | exact ih0 _ _ _ _ _ _
      | exact ih1 _ _ _ _ _ _ _ _ _ _
      | exact ih2 _ _ _ _ _ _ _ _ _ _
      | exact hinterlandref10_Takes.mono _ _ _ _ _
      | exact hinterlandref10_ValidateKinds.mono _ _
      | exact LeO.none _
      | refine LeO.ite ?_ ?_
      | refine LeO.bind ?_ (fun _ => ?_)
    · intro y0 y1 y2 y3 y4 y5 y6 y7 y8 y9
      unfold hinterlandref10_Chains.j1
      repeat' first
      | (with_reducible first | exact ih0 _ _ _ _ _ _ | exact ih1 _ _ _ _ _ _ _ _ _ _ | exact ih2 _ _ _ _ _ _ _ _ _ _ | exact hinterlandref10_Takes.mono _ _ _ _ _ | exact hinterlandref10_ValidateKinds.mono _ _ | exact LeO.refl _ | exact LeO.none _ | refine LeO.ite ?_ ?_ | refine LeO.bind ?_ (fun _ => ?_))
      | exact ih0 _ _ _ _ _ _
      | exact ih1 _ _ _ _ _ _ _ _ _ _
      | exact ih2 _ _ _ _ _ _ _ _ _ _
      | exact hinterlandref10_Takes.mono _ _ _ _ _
      | exact hinterlandref10_ValidateKinds.mono _ _
      | exact LeO.none _
      | refine LeO.ite ?_ ?_
      | refine LeO.bind ?_ (fun _ => ?_)
    · intro y0 y1 y2 y3 y4 y5 y6 y7 y8 y9
      unfold hinterlandref10_Chains.l1
      repeat' first
      | (with_reducible first | exact ih0 _ _ _ _ _ _ | exact ih1 _ _ _ _ _ _ _ _ _ _ | exact ih2 _ _ _ _ _ _ _ _ _ _ | exact hinterlandref10_Takes.mono _ _ _ _ _ | exact hinterlandref10_ValidateKinds.mono _ _ | exact LeO.refl _ | exact LeO.none _ | refine LeO.ite ?_ ?_ | refine LeO.bind ?_ (fun _ => ?_))
      | exact ih0 _ _ _ _ _ _
      | exact ih1 _ _ _ _ _ _ _ _ _ _
      | exact ih2 _ _ _ _ _ _ _ _ _ _
      | exact hinterlandref10_Takes.mono _ _ _ _ _
      | exact hinterlandref10_ValidateKinds.mono _ _
      | exact LeO.none _
      | refine LeO.ite ?_ ?_
      | refine LeO.bind ?_ (fun _ => ?_)
theorem hinterlandref10_Chains.mono : ∀ a0 a1 k, LeO (hinterlandref10_Chains.f k a0 a1) (hinterlandref10_Chains.f (k + 1) a0 a1) := by
  intro a0 a1 k
  obtain ⟨ih0, ih1, ih2⟩ := hinterlandref10_Chains.mono_l k
  unfold hinterlandref10_Chains.f
  repeat' first
      | (with_reducible first | exact ih0 _ _ _ _ _ _ | exact ih1 _ _ _ _ _ _ _ _ _ _ | exact ih2 _ _ _ _ _ _ _ _ _ _ | exact hinterlandref10_Takes.mono _ _ _ _ _ | exact hinterlandref10_ValidateKinds.mono _ _ | exact LeO.refl _ | exact LeO.none _ | refine LeO.ite ?_ ?_ | refine LeO.bind ?_ (fun _ => ?_))
      | exact ih0 _ _ _ _ _ _
      | exact ih1 _ _ _ _ _ _ _ _ _ _
      | exact ih2 _ _ _ _ _ _ _ _ _ _
      | exact hinterlandref10_Takes.mono _ _ _ _ _
      | exact hinterlandref10_ValidateKinds.mono _ _
      | exact LeO.none _
      | refine LeO.ite ?_ ?_
      | refine LeO.bind ?_ (fun _ => ?_)
set_option maxHeartbeats 8000000 in
set_option maxRecDepth 100000 in
theorem hinterlandref10_Chains.calls (k : Nat) (A0 : Option Addr) (c0 : Nat) (l0 : List (S39)) (a1 : Int) (r1 : List Int) (r2 : List Int) (r3 : Int) (w : World) (hr0 : Kd.C k39 w A0 l0.length l0) (hc0 : l0.length ≤ c0) (h : hinterlandref10_Chains.f k l0 a1 = some (r1, r2, r3)) :
    Calls Try.prog 29 #[.slice A0 l0.length c0, .int .i64 a1] w fun e w' => ∃ v0_ v1_ : Value, e = .returned (.tuple #[v0_, v1_, .int .i64 r3]) ∧ Kd.R (Kd.int .i64) 3 w' w.heap.size (fun k_ => some k_ ≠ (v1_ : Value).ownBlock) v0_ r1 ∧ Kd.R (Kd.int .i64) 3 w' w.heap.size (fun k_ => some k_ ≠ (v0_ : Value).ownBlock) v1_ r2 ∧ Below w.heap.size w w' := by
 have hu39 := Try.underlying39
 have hu41 := Try.underlying41
 have HR0 := Aside0.mk hr0
 have HC0 := Aside0.mk hc0
 clear hr0 hc0
 have HB := Aside0.mk (Below.refl w.heap.size w)
 have H : ((hinterlandref10_ValidateKinds.f k l0).bind fun t270 => (if t270 = 0 then ((hinterlandref10_within.f a1 0 15).bind fun t271 => (if t271 = true then (hinterlandref10_Chains.l0 k a1 ([] : List Int) ([] : List Int) l0 (l0.length : Int) 0) else (some (([] : List Int), ([] : List Int), 1)))) else (some (([] : List Int), ([] : List Int), t270)))) = some (r1, r2, r3) := h
 clear h
 replace H := Option.bind_eq_some_iff.mp H
 obtain ⟨t270, A30, H⟩ := H
 replace H : (if t270 = 0 then ((hinterlandref10_within.f a1 0 15).bind fun t271 => (if t271 = true then (hinterlandref10_Chains.l0 k a1 ([] : List Int) ([] : List Int) l0 (l0.length : Int) 0) else (some (([] : List Int), ([] : List Int), 1)))) else (some (([] : List Int), ([] : List Int), t270))) = some (r1, r2, r3) := H
 have A3 := Aside0.mk A30
 clear A30
 by_cases c4 : t270 = 0
 ·rw [if_pos c4] at H
  have c4b0 : (t270 == 0) = true := beq_iff_eq.mpr c4
  have c4b1 : (t270 != 0) = false := bne_eq_false_iff_eq.mpr c4
  clear c4
  replace H := Option.bind_eq_some_iff.mp H
  obtain ⟨t271, A50, H⟩ := H
  replace H : (if t271 = true then (hinterlandref10_Chains.l0 k a1 ([] : List Int) ([] : List Int) l0 (l0.length : Int) 0) else (some (([] : List Int), ([] : List Int), 1))) = some (r1, r2, r3) := H
  have A5 := Aside0.mk A50
  clear A50
  by_cases c6 : t271 = true
  ·subst c6
   have H1 : (hinterlandref10_Chains.l0 k a1 ([] : List Int) ([] : List Int) l0 (l0.length : Int) 0) = some (r1, r2, r3) := by rw [if_pos rfl] at H; exact H
   clear H
   have H := H1
   clear H1
   have H' := Aside0.mk H
   clear H
   go_enter Try.func29, Try.ntmps29
   go_wp2_with (first | ((with_reducible refine gate_callee (f := 35) rfl ?_); refine goesL_ (some 15) rfl rfl Try.func35 (by kernel_rfl) rfl #[.slice A0 l0.length c0] rfl tA_ ?_; (with_reducible refine (hinterlandref10_ValidateKinds.calls k _ _ l0 t270 _ ?side1 ?side2 A3.out).mono ?_); (case side1 => repeat (first | exact HR0.out | (with_reducible refine Kd.C_alloc ?_ _) | (with_reducible refine Kd.C_drewN ?_ _) | (with_reducible refine Kd.C_drew ?_))); (case side2 => exact HC0.out); rintro e w7 ⟨rfl, hb⟩; refine ⟨_, rfl, ?_⟩; replace HB := Aside0.mk (below_step (dL_ HB) hb)) | ((with_reducible refine gate_callee (f := 36) rfl ?_); refine goesL_ (some 20) rfl rfl Try.func36 (by kernel_rfl) rfl #[.int .i64 a1, .int .i64 0, .int .i64 15] rfl tA_ ?_; (with_reducible refine (hinterlandref10_within.calls a1 0 15 true _ A5.out).mono ?_); rintro e w' ⟨rfl, ⟨nd, rfl⟩⟩; refine ⟨_, rfl, ?_⟩))
   go_loopg [8, 9, 24] k (fun kq v8 v9 v24 w' => ∃ (x8_1 : List Int) (x9_1 : List Int) (x24_1 : Int), v24 = .int .i64 x24_1 ∧ Aside0 (hinterlandref10_Chains.l0 kq a1 x8_1 x9_1 l0 (l0.length : Int) x24_1 = some (r1, r2, r3)) ∧ Aside0 (kq ≤ k) ∧ Aside0 (Kd.R (Kd.int .i64) 3 w' w.heap.size (fun k_ => some k_ ≠ (v9 : Value).ownBlock) v8 x8_1) ∧ Aside0 (Kd.R (Kd.int .i64) 3 w' w.heap.size (fun k_ => some k_ ≠ (v8 : Value).ownBlock) v9 x9_1) ∧ Aside0 (Below w.heap.size w w'))
   case atStart => exact ⟨(([] : List Int)), (([] : List Int)), (0), tS_, H', ⟨Nat.le_refl _⟩, ⟨by first | exact Kd.R_nil _ _ _ _ _ | exact Kd.N_nil _ _ _ _ _ | exact Kd.V_nil _ _ _ _ _ | exact Kd.Q_nil _ _ _ _ _ | exact Kd.S_nil _ _ _ _ _⟩, ⟨by first | exact Kd.R_nil _ _ _ _ _ | exact Kd.N_nil _ _ _ _ _ | exact Kd.V_nil _ _ _ _ _ | exact Kd.Q_nil _ _ _ _ _ | exact Kd.S_nil _ _ _ _ _⟩, ⟨dL_ HB⟩⟩
   case round =>
    clear H'
    try clear c4
    try clear c4b0
    try clear c4b1
    try clear c6
    obtain ⟨x8_1, x9_1, x24_1, rfl, HA, HK1, HO_8, HO_9, HB⟩ := hrel
    cases gk with
    | zero => exact absurd HA.out (by simp [hinterlandref10_Chains.l0])
    | succ k1 =>
     have H := HA.out
     clear HA
     simp only [hinterlandref10_Chains.l0] at H
     by_cases c8 : x24_1 < (l0.length : Int)
     ·rw [if_pos c8] at H
      have c8b0 : decide (x24_1 < (l0.length : Int)) = true := decide_eq_true c8
      clear c8
      by_cases c9 : 0 ≤ x24_1
      ·rw [if_pos c9] at H
       have c9b0 : decide (0 ≤ x24_1) = true := decide_eq_true c9
       clear c9
       by_cases c10 : x24_1 < (l0.length : Int)
       ·rw [if_pos c10] at H
        have c10b0 : decide (x24_1 < (l0.length : Int)) = true := decide_eq_true c10
        clear c10
        replace H := Option.bind_eq_some_iff.mp H
        obtain ⟨t274, A110, H⟩ := H
        replace H : (if t274 = true then (if x8_1.length < 17592186044416 then (hinterlandref10_Chains.j1 k1 a1 (x8_1 ++ [x24_1]) x9_1 x24_1 l0 (l0.length : Int) x24_1 ((rd_T39 l0 x24_1).f0) ((rd_T39 l0 x24_1).f1) ((rd_T39 l0 x24_1).f2)) else (none)) else (hinterlandref10_Chains.j1 k1 a1 x8_1 x9_1 x24_1 l0 (l0.length : Int) x24_1 ((rd_T39 l0 x24_1).f0) ((rd_T39 l0 x24_1).f1) ((rd_T39 l0 x24_1).f2))) = some (r1, r2, r3) := H
        have A11 := Aside0.mk A110
        clear A110
        have HC12 := Aside0.mk H
        clear H
        have p272 : 0 ≤ (x24_1 : Int) := of_decide_eq_true tW_
        have q272 : x24_1 < (l0.length : Int) := of_decide_eq_true tW_
        obtain ⟨ad272, A272_1, c272_1, A272_2, c272_2, e272, hx272_0, hx272_1, hx272_2, hl272_1, hi272_1, hl272_2, hi272_2⟩ := at_T39 HR0.out x24_1 p272 q272
        cases e272
        replace hx272_0 := bc_ HB hx272_0
        replace hx272_1 := bc_ HB hx272_1
        replace hx272_2 := bc_ HB hx272_2
        have HR272_1 := Aside0.mk hi272_1
        have HC272_1 := Aside0.mk hl272_1
        clear hi272_1 hl272_1
        have HR272_2 := Aside0.mk hi272_2
        have HC272_2 := Aside0.mk hl272_2
        clear hi272_2 hl272_2
        replace p272 := eq_true p272
        replace q272 := eq_true q272
        go_upto_if 31 with (first | ((with_reducible refine gate_dst (N := 11) rfl ?_); refine box_event ?hg (N := 11) ?hd (cs := #[.string (⟨#[]⟩ : ByteArray), .slice none 0 0, .slice none 0 0]) (t := 39) ?hr ?_; (case hd => rfl); (case hg => rfl); (case hr => first | (go_simp; done) | (go_simp; rfl)); intro gb273 hg w13 hbox hb; replace HO_8 := Aside0.mk (Kd.R_below (dR_ HO_8) hb); replace HO_9 := Aside0.mk (Kd.R_below (dR_ HO_9) hb); have BK273 := Aside0.mk (hbox); have GW273 := Aside0.mk ((dS_ hg (dL_ HB) : w.heap.size ≤ gb273)); have GE273 := Aside0.mk ((dS_ hg (dL_ HB) : w.heap.size ≤ gb273)); replace HB := Aside0.mk (below_step (dL_ HB) hb); clear hb hbox hg; obtain ⟨hcz14_0, hcz14_1, hcz14_2, hfz14_0, hfz14_1, hfz14_2⟩ := cs3_ BK273.out) | ((with_reducible refine gate_callee (f := 42) rfl ?_); refine goesL_ (some 31) rfl rfl Try.func42 (by kernel_rfl) rfl #[.agg #[.string ((rd_T39 l0 x24_1).f0), .slice A272_1 ((rd_T39 l0 x24_1).f1).length c272_1, .slice A272_2 ((rd_T39 l0 x24_1).f2).length c272_2], .int .i64 a1] rfl tA_ ?_; (with_reducible refine (hinterlandref10_Takes.calls k1 ((rd_T39 l0 x24_1).f0) _ _ ((rd_T39 l0 x24_1).f1) _ _ ((rd_T39 l0 x24_1).f2) a1 t274 _ ?side1 ?side2 ?side3 ?side4 A11.out).mono ?_); (case side1 => exact Kd.C_below HR272_1.out (dL1_ HB GE273)); (case side2 => exact HC272_1.out); (case side3 => exact Kd.C_below HR272_2.out (dL1_ HB GE273)); (case side4 => exact HC272_2.out); rintro e w15 ⟨rfl, hb⟩; refine ⟨_, rfl, ?_⟩; replace HO_8 := Aside0.mk (Kd.R_below (by (with_reducible repeat (first | apply Kd.R_alloc | apply Kd.R_drewN | apply Kd.R_drew)); exact (Kd.R_mono (Kd.R_far (p := ⟨gb273, 2, none⟩) (Kd.R_far (p := ⟨gb273, 1, none⟩) (Kd.R_far (p := ⟨gb273, 0, none⟩) (Kd.R_types HO_8.out BK273.out (by decide)) (fun _ hk => hk.2) (.string ((rd_T39 l0 x24_1).f0))) (fun _ hk => hk.2) (.slice A272_1 ((rd_T39 l0 x24_1).f1).length c272_1)) (fun _ hk => hk.2) (.slice A272_2 ((rd_T39 l0 x24_1).f2).length c272_2)) (fun _ h_ => h_.1))) hb); replace HO_9 := Aside0.mk (Kd.R_below (by (with_reducible repeat (first | apply Kd.R_alloc | apply Kd.R_drewN | apply Kd.R_drew)); exact (Kd.R_mono (Kd.R_far (p := ⟨gb273, 2, none⟩) (Kd.R_far (p := ⟨gb273, 1, none⟩) (Kd.R_far (p := ⟨gb273, 0, none⟩) (Kd.R_types HO_9.out BK273.out (by decide)) (fun _ hk => hk.2) (.string ((rd_T39 l0 x24_1).f0))) (fun _ hk => hk.2) (.slice A272_1 ((rd_T39 l0 x24_1).f1).length c272_1)) (fun _ hk => hk.2) (.slice A272_2 ((rd_T39 l0 x24_1).f2).length c272_2)) (fun _ h_ => h_.1))) hb); replace BK273 := Aside0.mk (blk_below (g := gb273) (o := .cells #[.string ((rd_T39 l0 x24_1).f0), .slice A272_1 ((rd_T39 l0 x24_1).f1).length c272_1, .slice A272_2 ((rd_T39 l0 x24_1).f2).length c272_2] 39 (0, 0)) (by (with_reducible repeat (first | refine blk_drewN ?_ _ | refine blk_drew ?_ | refine blk_alloc ?_ _)); refine blk_put (cs := #[.string ((rd_T39 l0 x24_1).f0), .slice A272_1 ((rd_T39 l0 x24_1).f1).length c272_1, .slice none 0 0]) ?_ 2 _ rfl; (with_reducible repeat (first | refine blk_drewN ?_ _ | refine blk_drew ?_ | refine blk_alloc ?_ _)); refine blk_put (cs := #[.string ((rd_T39 l0 x24_1).f0), .slice none 0 0, .slice none 0 0]) ?_ 1 _ rfl; (with_reducible repeat (first | refine blk_drewN ?_ _ | refine blk_drew ?_ | refine blk_alloc ?_ _)); refine blk_put (cs := #[.string (⟨#[]⟩ : ByteArray), .slice none 0 0, .slice none 0 0]) ?_ 0 _ rfl; (with_reducible repeat (first | refine blk_drewN ?_ _ | refine blk_drew ?_ | refine blk_alloc ?_ _)); exact BK273.out) hb); replace HB := Aside0.mk (below_step (dL1_ HB GE273) hb)))
        (try simp only [Act.put, List.setIfInBounds_toArray, List.set_cons_zero, List.set_cons_succ])
        go_cut [8] (fun v8 wc => ∃ (kq : Nat) (x8_11 : List Int), Aside0 (hinterlandref10_Chains.j1 kq a1 x8_11 x9_1 x24_1 l0 (l0.length : Int) x24_1 ((rd_T39 l0 x24_1).f0) ((rd_T39 l0 x24_1).f1) ((rd_T39 l0 x24_1).f2) = some (r1, r2, r3)) ∧ Aside0 (kq ≤ k1) ∧ Aside0 (Kd.R (Kd.int .i64) 3 wc w.heap.size (fun k_ => some k_ ≠ (u9 : Value).ownBlock) v8 x8_11) ∧ Aside0 (Kd.R (Kd.int .i64) 3 wc w.heap.size (fun k_ => some k_ ≠ (v8 : Value).ownBlock) u9 x9_1) ∧ Aside0 (wc.heap[gb273]? = some (.cells #[.string ((rd_T39 l0 x24_1).f0), (.slice A272_1 ((rd_T39 l0 x24_1).f1).length c272_1), (.slice A272_2 ((rd_T39 l0 x24_1).f2).length c272_2)] 39 (0, 0))) ∧ Aside0 (Below w.heap.size w wc))
        case first =>
         have H := HC12.out
         clear HC12
         by_cases c16 : t274 = true
         ·subst c16
          have H1 : (if x8_1.length < 17592186044416 then (hinterlandref10_Chains.j1 k1 a1 (x8_1 ++ [x24_1]) x9_1 x24_1 l0 (l0.length : Int) x24_1 ((rd_T39 l0 x24_1).f0) ((rd_T39 l0 x24_1).f1) ((rd_T39 l0 x24_1).f2)) else (none)) = some (r1, r2, r3) := by rw [if_pos rfl] at H; exact H
          clear H
          have H := H1
          clear H1
          by_cases c17 : x8_1.length < 17592186044416
          ·rw [if_pos c17] at H
           have LMc17 := Aside0.mk c17
           clear c17
           obtain ⟨y275, hy275⟩ : ∃ y_ : List Int, y_ = (x8_1 ++ [x24_1]) := ⟨_, rfl⟩
           replace H : (hinterlandref10_Chains.j1 k1 a1 y275 x9_1 x24_1 l0 (l0.length : Int) x24_1 ((rd_T39 l0 x24_1).f0) ((rd_T39 l0 x24_1).f1) ((rd_T39 l0 x24_1).f2)) = some (r1, r2, r3) := by first | (rw [hy275]; with_reducible exact H) | (have H2_ := (Option.bind_some _ _).symm.trans H; rw [hy275]; with_reducible exact H2_) | (have H2_ := (Option.bind_some _ _).symm.trans H; with_reducible exact H2_) | with_reducible exact H | (rw [hy275]; exact H) | exact H
           have Ny275 := Aside0.mk hy275
           clear hy275
           have H' := Aside0.mk H
           clear H
           go_wp2_with (first | ((with_reducible refine gate_builtin (b := .append) (xs := #[.tmp 32, .tmp 34]) rfl ?_); at_builtin; refine Kd.R_append (Kd.int .i64) (w0 := w) w.heap.size rfl (.tmp 32) (.tmp 34) 23 3 (.int .i64 0) 8 rfl Try.underlying23 info3 rfl (by decide) (by omega) u8 x8_1 x24_1 [.int .i64 x24_1] (fun k_ => some k_ ≠ (u9 : Value).ownBlock) (fun _ => False) rfl rfl ?aP (fun _ hk => hk.elim) ?aF ?aO ?aB ?aS ?aL ?_; (case aP => exact rfl); (case aB => exact (dL1_ HB GE273)); (case aF => exact (fun k_ hk => Kd.fresh' (Kd.R_lt (dR_ HO_9)) k_ hk)); (case aO => exact (dR_ HO_8)); (case aS => exact (below_size (dL1_ HB GE273))); (case aL => have := LMc17.out; omega); intro v276 w18 ho hb hg hat; rw [← Ny275.out] at ho; replace HO_9 := Aside0.mk (Kd.R_after (ok := (fun _ => True)) (by (with_reducible repeat (first | apply Kd.R_alloc | apply Kd.R_drewN | apply Kd.R_drew)); exact Kd.R_mono HO_9.out (fun _ hk => ⟨trivial, hk⟩)) hg hat); replace BK273 := Aside0.mk (blk_grown (g := gb273) (o := .cells #[.string ((rd_T39 l0 x24_1).f0), .slice A272_1 ((rd_T39 l0 x24_1).f1).length c272_1, .slice A272_2 ((rd_T39 l0 x24_1).f2).length c272_2] 39 (0, 0)) (dB_ BK273) hg (Kd.R_ne HO_8.out BK273.out (by decide))); replace HB := Aside0.mk (hb); have HO277 := Aside0.mk (ho); clear HO_8; clear ho hb hg hat))
           go_meet
           case rel => exact ⟨_, (y275), H', ⟨by have := HK1.out; first | omega | exact Nat.le_refl _⟩, ⟨dR_ HO277⟩, ⟨by (with_reducible repeat (first | apply Kd.R_alloc | apply Kd.R_drewN | apply Kd.R_drew)); exact Kd.R_mono HO_9.out (fun _ hk => hk.2)⟩, ⟨dB_ BK273⟩, ⟨dL1_ HB GE273⟩⟩
          ·rw [if_neg c17] at H
           exact absurd H (by simp)
         ·replace c16 := Bool.eq_false_iff.mpr c16
          subst c16
          have H1 : (hinterlandref10_Chains.j1 k1 a1 x8_1 x9_1 x24_1 l0 (l0.length : Int) x24_1 ((rd_T39 l0 x24_1).f0) ((rd_T39 l0 x24_1).f1) ((rd_T39 l0 x24_1).f2)) = some (r1, r2, r3) := by rw [if_neg (show ¬ (false = true) by decide)] at H; exact H
          clear H
          have H := H1
          clear H1
          have H' := Aside0.mk H
          clear H
          go_wp2
          go_meet
          case rel => exact ⟨_, (x8_1), H', ⟨by have := HK1.out; first | omega | exact Nat.le_refl _⟩, ⟨dR_ HO_8⟩, ⟨dR_ HO_9⟩, ⟨dB_ BK273⟩, ⟨dL1_ HB GE273⟩⟩
        case rest =>
         clear HC12
         try clear c4
         try clear c4b0
         try clear c4b1
         try clear c6
         try clear c8
         try clear c8b0
         try clear c9
         try clear c9b0
         try clear c10
         try clear c10b0
         try clear c17
         try clear hcz14_0
         try clear hcz14_1
         try clear hcz14_2
         try clear hfz14_0
         try clear hfz14_1
         try clear hfz14_2
         try clear hx272_0
         try clear hx272_1
         try clear hx272_2
         try clear p272
         try clear q272
         obtain ⟨kq, x8_11, HA, HJ11, HO_8, HO_9, BK273, HB⟩ := hcut
         cases kq with
         | zero => exact absurd HA.out (by simp [hinterlandref10_Chains.j1])
         | succ kj11 =>
          have H := HA.out
          clear HA
          simp only [hinterlandref10_Chains.j1] at H
          have H' := Aside0.mk H
          clear H
          obtain ⟨hcz19_0, hcz19_1, hcz19_2, hfz19_0, hfz19_1, hfz19_2⟩ := cs3_ BK273.out
          go_wp2
          go_loopg [9, 39] kj11 (fun kq v9 v39 w' => ∃ (x9_3 : List Int) (x39_3 : Int), v39 = .int .i64 x39_3 ∧ Aside0 (hinterlandref10_Chains.l1 kq a1 x8_11 x9_3 x24_1 l0 (l0.length : Int) x24_1 ((rd_T39 l0 x24_1).f2) (((rd_T39 l0 x24_1).f2).length : Int) x39_3 = some (r1, r2, r3)) ∧ Aside0 (kq ≤ kj11) ∧ Aside0 (Kd.R (Kd.int .i64) 3 w' w.heap.size (fun k_ => some k_ ≠ (v9 : Value).ownBlock) u8 x8_11) ∧ Aside0 (Kd.R (Kd.int .i64) 3 w' w.heap.size (fun k_ => some k_ ≠ (u8 : Value).ownBlock) v9 x9_3) ∧ Aside0 (w'.heap[gb273]? = some (.cells #[.string ((rd_T39 l0 x24_1).f0), (.slice A272_1 ((rd_T39 l0 x24_1).f1).length c272_1), (.slice A272_2 ((rd_T39 l0 x24_1).f2).length c272_2)] 39 (0, 0))) ∧ Aside0 (Below w.heap.size w w'))
          case atStart => exact ⟨(x9_1), (0), tS_, H', ⟨Nat.le_refl _⟩, ⟨dR_ HO_8⟩, ⟨dR_ HO_9⟩, ⟨dB_ BK273⟩, ⟨dL1_ HB GE273⟩⟩
          case round =>
           clear H'
           try clear c4
           try clear c4b0
           try clear c4b1
           try clear c6
           try clear c8
           try clear c8b0
           try clear c9
           try clear c9b0
           try clear c10
           try clear c10b0
           try clear c17
           try clear hcz14_0
           try clear hcz14_1
           try clear hcz14_2
           try clear hcz19_0
           try clear hcz19_1
           try clear hcz19_2
           try clear hfz14_0
           try clear hfz14_1
           try clear hfz14_2
           try clear hfz19_0
           try clear hfz19_1
           try clear hfz19_2
           try clear hx272_0
           try clear hx272_1
           try clear hx272_2
           try clear p272
           try clear q272
           obtain ⟨x9_3, x39_3, rfl, HA, HK3, HO_8, HO_9, BK273, HB⟩ := hrel
           cases gk with
           | zero => exact absurd HA.out (by simp [hinterlandref10_Chains.l1])
           | succ k3 =>
            have H := HA.out
            clear HA
            simp only [hinterlandref10_Chains.l1] at H
            by_cases c20 : x39_3 < (((rd_T39 l0 x24_1).f2).length : Int)
            ·rw [if_pos c20] at H
             have c20b0 : decide (x39_3 < (((rd_T39 l0 x24_1).f2).length : Int)) = true := decide_eq_true c20
             clear c20
             by_cases c21 : 0 ≤ x39_3
             ·rw [if_pos c21] at H
              have c21b0 : decide (0 ≤ x39_3) = true := decide_eq_true c21
              clear c21
              by_cases c22 : x39_3 < (((rd_T39 l0 x24_1).f2).length : Int)
              ·rw [if_pos c22] at H
               have c22b0 : decide (x39_3 < (((rd_T39 l0 x24_1).f2).length : Int)) = true := decide_eq_true c22
               clear c22
               by_cases c23 : ((rd_T41 ((rd_T39 l0 x24_1).f2) x39_3).f0) = a1
               ·rw [if_pos c23] at H
                have c23b0 : (((rd_T41 ((rd_T39 l0 x24_1).f2) x39_3).f0) == a1) = true := beq_iff_eq.mpr c23
                have c23b1 : (((rd_T41 ((rd_T39 l0 x24_1).f2) x39_3).f0) != a1) = false := bne_eq_false_iff_eq.mpr c23
                clear c23
                by_cases c24 : x9_3.length < 17592186044416
                ·rw [if_pos c24] at H
                 have LMc24 := Aside0.mk c24
                 clear c24
                 obtain ⟨y280, hy280⟩ : ∃ y_ : List Int, y_ = (x9_3 ++ [x24_1]) := ⟨_, rfl⟩
                 replace H : (hinterlandref10_Chains.l1 k3 a1 x8_11 y280 x24_1 l0 (l0.length : Int) x24_1 ((rd_T39 l0 x24_1).f2) (((rd_T39 l0 x24_1).f2).length : Int) (wrap64 (x39_3 + 1))) = some (r1, r2, r3) := by first | (rw [hy280]; with_reducible exact H) | (have H2_ := (Option.bind_some _ _).symm.trans H; rw [hy280]; with_reducible exact H2_) | (have H2_ := (Option.bind_some _ _).symm.trans H; with_reducible exact H2_) | with_reducible exact H | (rw [hy280]; exact H) | exact H
                 have Ny280 := Aside0.mk hy280
                 clear hy280
                 have H' := Aside0.mk H
                 clear H
                 have p278 : 0 ≤ (x39_3 : Int) := of_decide_eq_true tW_
                 have q278 : x39_3 < (((rd_T39 l0 x24_1).f2).length : Int) := of_decide_eq_true tW_
                 obtain ⟨ad278, e278, hx278_0, hx278_1⟩ := at_T41 HR272_2.out x39_3 p278 q278
                 cases e278
                 replace hx278_0 := bc_ HB hx278_0
                 replace hx278_1 := bc_ HB hx278_1
                 replace p278 := eq_true p278
                 replace q278 := eq_true q278
                 go_wp2_with (first | ((with_reducible refine gate_dst (N := 13) rfl ?_); refine box_event ?hg (N := 13) ?hd (cs := #[.int .i64 0, .int .i64 0]) (t := 41) ?hr ?_; (case hd => rfl); (case hg => rfl); (case hr => first | (go_simp; done) | (go_simp; rfl)); intro gb279 hg w25 hbox hb; replace HO_8 := Aside0.mk (Kd.R_below (dR_ HO_8) hb); replace HO_9 := Aside0.mk (Kd.R_below (dR_ HO_9) hb); have BK279 := Aside0.mk (hbox); have GW279 := Aside0.mk ((dS_ hg (dL1_ HB GE273) : w.heap.size ≤ gb279)); have GE279 := Aside0.mk ((dS_ hg (dL1_ HB GE273) : w.heap.size ≤ gb279)); replace HB := Aside0.mk (below_step (dL1_ HB GE273) hb); have NB273_279 := Aside0.mk ((by rw [hg]; exact Nat.ne_of_lt (blk_lt (dB_ BK273)) : gb273 ≠ gb279)); have NB279_273 := Aside0.mk ((by rw [hg]; exact Nat.ne_of_gt (blk_lt (dB_ BK273)) : gb279 ≠ gb273)); replace BK273 := Aside0.mk (blk_below (g := gb273) (o := .cells #[.string ((rd_T39 l0 x24_1).f0), .slice A272_1 ((rd_T39 l0 x24_1).f1).length c272_1, .slice (some ad278) ((rd_T39 l0 x24_1).f2).length c272_2] 39 (0, 0)) (dB_ BK273) hb); clear hb hbox hg; have hnb26 := NB279_273.out; have hnc26 := NB273_279.out; obtain ⟨hcz27_0, hcz27_1, hfz27_0, hfz27_1⟩ := cs2_ BK279.out) | ((with_reducible refine gate_builtin (b := .append) (xs := #[.tmp 47, .tmp 49]) rfl ?_); at_builtin; refine Kd.R_append (Kd.int .i64) (w0 := w) w.heap.size rfl (.tmp 47) (.tmp 49) 23 3 (.int .i64 0) 8 rfl Try.underlying23 info3 rfl (by decide) (by omega) u9 x9_3 x24_1 [.int .i64 x24_1] (fun k_ => some k_ ≠ (u8 : Value).ownBlock) (fun _ => False) rfl (by first | (go_simp; done) | (go_simp; rfl)) ?aP (fun _ hk => hk.elim) ?aF ?aO ?aB ?aS ?aL ?_; (case aP => exact rfl); (case aB => exact (dL2_ HB GE273 GE279)); (case aF => exact (fun k_ hk => Kd.fresh' (Kd.R_lt (by (with_reducible repeat (first | apply Kd.R_alloc | apply Kd.R_drewN | apply Kd.R_drew)); exact (Kd.R_mono (Kd.R_far (p := ⟨gb279, 1, none⟩) (Kd.R_far (p := ⟨gb279, 0, none⟩) (Kd.R_types HO_8.out BK279.out (by decide)) (fun _ hk => hk.2) (.int .i64 ((rd_T41 ((rd_T39 l0 x24_1).f2) x39_3).f0))) (fun _ hk => hk.2) (.int .i64 ((rd_T41 ((rd_T39 l0 x24_1).f2) x39_3).f1))) (fun _ h_ => h_.1)))) k_ hk)); (case aO => exact (by (with_reducible repeat (first | apply Kd.R_alloc | apply Kd.R_drewN | apply Kd.R_drew)); exact Kd.R_mono (Kd.R_far (p := ⟨gb279, 1, none⟩) (Kd.R_far (p := ⟨gb279, 0, none⟩) (Kd.R_types HO_9.out BK279.out (by decide)) (fun _ hk => hk.2) (.int .i64 ((rd_T41 ((rd_T39 l0 x24_1).f2) x39_3).f0))) (fun _ hk => hk.2) (.int .i64 ((rd_T41 ((rd_T39 l0 x24_1).f2) x39_3).f1))) (fun _ hk => hk.1))); (case aS => exact (below_size (dL2_ HB GE273 GE279))); (case aL => have := LMc24.out; omega); intro v281 w28 ho hb hg hat; rw [← Ny280.out] at ho; replace HO_8 := Aside0.mk (Kd.R_after (ok := (fun _ => True)) (by (with_reducible repeat (first | apply Kd.R_alloc | apply Kd.R_drewN | apply Kd.R_drew)); exact Kd.R_mono (Kd.R_far (p := ⟨gb279, 1, none⟩) (Kd.R_far (p := ⟨gb279, 0, none⟩) (Kd.R_types HO_8.out BK279.out (by decide)) (fun _ hk => hk.2) (.int .i64 ((rd_T41 ((rd_T39 l0 x24_1).f2) x39_3).f0))) (fun _ hk => hk.2) (.int .i64 ((rd_T41 ((rd_T39 l0 x24_1).f2) x39_3).f1))) (fun _ hk => ⟨trivial, hk.1⟩)) hg hat); replace BK273 := Aside0.mk (blk_grown (g := gb273) (o := .cells #[.string ((rd_T39 l0 x24_1).f0), .slice A272_1 ((rd_T39 l0 x24_1).f1).length c272_1, .slice (some ad278) ((rd_T39 l0 x24_1).f2).length c272_2] 39 (0, 0)) (by (with_reducible repeat (first | refine blk_drewN ?_ _ | refine blk_drew ?_ | refine blk_alloc ?_ _)); refine blk_far ?_ NB273_279.out _; (with_reducible repeat (first | refine blk_drewN ?_ _ | refine blk_drew ?_ | refine blk_alloc ?_ _)); refine blk_far ?_ NB273_279.out _; (with_reducible repeat (first | refine blk_drewN ?_ _ | refine blk_drew ?_ | refine blk_alloc ?_ _)); exact BK273.out) hg (Kd.R_ne HO_9.out BK273.out (by decide))); replace BK279 := Aside0.mk (blk_grown (g := gb279) (o := .cells #[.int .i64 ((rd_T41 ((rd_T39 l0 x24_1).f2) x39_3).f0), .int .i64 ((rd_T41 ((rd_T39 l0 x24_1).f2) x39_3).f1)] 41 (0, 0)) (by (with_reducible repeat (first | refine blk_drewN ?_ _ | refine blk_drew ?_ | refine blk_alloc ?_ _)); refine blk_put (cs := #[.int .i64 ((rd_T41 ((rd_T39 l0 x24_1).f2) x39_3).f0), .int .i64 0]) ?_ 1 _ rfl; (with_reducible repeat (first | refine blk_drewN ?_ _ | refine blk_drew ?_ | refine blk_alloc ?_ _)); refine blk_put (cs := #[.int .i64 0, .int .i64 0]) ?_ 0 _ rfl; (with_reducible repeat (first | refine blk_drewN ?_ _ | refine blk_drew ?_ | refine blk_alloc ?_ _)); exact BK279.out) hg (Kd.R_ne HO_9.out BK279.out (by decide))); replace HB := Aside0.mk (hb); have HO282 := Aside0.mk (ho); clear HO_9; clear ho hb hg hat))
                 go_roundg k3
                 case measure => have := HK1.out; have := HJ11.out; have := HK3.out; omega
                 case rel => exact ⟨(y280), (wrap64 (x39_3 + 1)), tS_, H', ⟨by have := HK1.out; have := HJ11.out; have := HK3.out; omega⟩, ⟨by (with_reducible repeat (first | apply Kd.R_alloc | apply Kd.R_drewN | apply Kd.R_drew)); exact Kd.R_mono HO_8.out (fun _ hk => hk.2)⟩, ⟨dR_ HO282⟩, ⟨dB_ BK273⟩, ⟨dL2_ HB GE273 GE279⟩⟩
                ·rw [if_neg c24] at H
                 exact absurd H (by simp)
               ·rw [if_neg c23] at H
                have c23b0 : (((rd_T41 ((rd_T39 l0 x24_1).f2) x39_3).f0) == a1) = false := beq_eq_false_iff_ne.mpr c23
                have c23b1 : (((rd_T41 ((rd_T39 l0 x24_1).f2) x39_3).f0) != a1) = true := bne_iff_ne.mpr c23
                have H' := Aside0.mk H
                clear H
                have p278 : 0 ≤ (x39_3 : Int) := of_decide_eq_true tW_
                have q278 : x39_3 < (((rd_T39 l0 x24_1).f2).length : Int) := of_decide_eq_true tW_
                obtain ⟨ad278, e278, hx278_0, hx278_1⟩ := at_T41 HR272_2.out x39_3 p278 q278
                cases e278
                replace hx278_0 := bc_ HB hx278_0
                replace hx278_1 := bc_ HB hx278_1
                replace p278 := eq_true p278
                replace q278 := eq_true q278
                go_wp2_with (first | ((with_reducible refine gate_dst (N := 13) rfl ?_); refine box_event ?hg (N := 13) ?hd (cs := #[.int .i64 0, .int .i64 0]) (t := 41) ?hr ?_; (case hd => rfl); (case hg => rfl); (case hr => first | (go_simp; done) | (go_simp; rfl)); intro gb279 hg w29 hbox hb; replace HO_8 := Aside0.mk (Kd.R_below (dR_ HO_8) hb); replace HO_9 := Aside0.mk (Kd.R_below (dR_ HO_9) hb); have BK279 := Aside0.mk (hbox); have GW279 := Aside0.mk ((dS_ hg (dL1_ HB GE273) : w.heap.size ≤ gb279)); have GE279 := Aside0.mk ((dS_ hg (dL1_ HB GE273) : w.heap.size ≤ gb279)); replace HB := Aside0.mk (below_step (dL1_ HB GE273) hb); have NB273_279 := Aside0.mk ((by rw [hg]; exact Nat.ne_of_lt (blk_lt (dB_ BK273)) : gb273 ≠ gb279)); have NB279_273 := Aside0.mk ((by rw [hg]; exact Nat.ne_of_gt (blk_lt (dB_ BK273)) : gb279 ≠ gb273)); replace BK273 := Aside0.mk (blk_below (g := gb273) (o := .cells #[.string ((rd_T39 l0 x24_1).f0), .slice A272_1 ((rd_T39 l0 x24_1).f1).length c272_1, .slice (some ad278) ((rd_T39 l0 x24_1).f2).length c272_2] 39 (0, 0)) (dB_ BK273) hb); clear hb hbox hg; have hnb30 := NB279_273.out; have hnc30 := NB273_279.out; obtain ⟨hcz31_0, hcz31_1, hfz31_0, hfz31_1⟩ := cs2_ BK279.out))
                go_roundg k3
                case measure => have := HK1.out; have := HJ11.out; have := HK3.out; omega
                case rel => exact ⟨(x9_3), (wrap64 (x39_3 + 1)), tS_, H', ⟨by have := HK1.out; have := HJ11.out; have := HK3.out; omega⟩, ⟨by (with_reducible repeat (first | apply Kd.R_alloc | apply Kd.R_drewN | apply Kd.R_drew)); exact Kd.R_mono (Kd.R_far (p := ⟨gb279, 1, none⟩) (Kd.R_far (p := ⟨gb279, 0, none⟩) (Kd.R_types HO_8.out BK279.out (by decide)) (fun _ hk => hk.2) (.int .i64 ((rd_T41 ((rd_T39 l0 x24_1).f2) x39_3).f0))) (fun _ hk => hk.2) (.int .i64 ((rd_T41 ((rd_T39 l0 x24_1).f2) x39_3).f1))) (fun _ hk => hk.1)⟩, ⟨by (with_reducible repeat (first | apply Kd.R_alloc | apply Kd.R_drewN | apply Kd.R_drew)); exact Kd.R_mono (Kd.R_far (p := ⟨gb279, 1, none⟩) (Kd.R_far (p := ⟨gb279, 0, none⟩) (Kd.R_types HO_9.out BK279.out (by decide)) (fun _ hk => hk.2) (.int .i64 ((rd_T41 ((rd_T39 l0 x24_1).f2) x39_3).f0))) (fun _ hk => hk.2) (.int .i64 ((rd_T41 ((rd_T39 l0 x24_1).f2) x39_3).f1))) (fun _ hk => hk.1)⟩, ⟨by (with_reducible repeat (first | refine blk_drewN ?_ _ | refine blk_drew ?_ | refine blk_alloc ?_ _)); refine blk_far ?_ NB273_279.out _; (with_reducible repeat (first | refine blk_drewN ?_ _ | refine blk_drew ?_ | refine blk_alloc ?_ _)); refine blk_far ?_ NB273_279.out _; (with_reducible repeat (first | refine blk_drewN ?_ _ | refine blk_drew ?_ | refine blk_alloc ?_ _)); exact BK273.out⟩, ⟨dL2_ HB GE273 GE279⟩⟩
              ·rw [if_neg c22] at H
               exact absurd H (by simp)
             ·rw [if_neg c21] at H
              exact absurd H (by simp)
            ·rw [if_neg c20] at H
             have c20b0 : decide (x39_3 < (((rd_T39 l0 x24_1).f2).length : Int)) = false := decide_eq_false c20
             clear c20
             have H' := Aside0.mk H
             clear H
             go_wp2
             go_roundg k3
             case measure => have := HK1.out; have := HJ11.out; have := HK3.out; omega
             case rel => exact ⟨(x8_11), (x9_3), (wrap64 (x24_1 + 1)), tS_, H', ⟨by have := HK1.out; have := HJ11.out; have := HK3.out; omega⟩, ⟨dR_ HO_8⟩, ⟨dR_ HO_9⟩, ⟨dL1_ HB GE273⟩⟩
       ·rw [if_neg c10] at H
        exact absurd H (by simp)
      ·rw [if_neg c9] at H
       exact absurd H (by simp)
     ·rw [if_neg c8] at H
      have c8b0 : decide (x24_1 < (l0.length : Int)) = false := decide_eq_false c8
      clear c8
      simp only [Option.some.injEq, Prod.mk.injEq] at H
      obtain ⟨rfl, rfl, rfl⟩ := H
      go_wp2
      go_ret3
      exact ⟨_, _, tE_, dR_ HO_8, dR_ HO_9, dL_ HB⟩
  ·replace c6 := Bool.eq_false_iff.mpr c6
   subst c6
   have H1 : (some (([] : List Int), ([] : List Int), 1)) = some (r1, r2, r3) := by rw [if_neg (show ¬ (false = true) by decide)] at H; exact H
   clear H
   have H := H1
   clear H1
   simp only [Option.some.injEq, Prod.mk.injEq] at H
   obtain ⟨rfl, rfl, rfl⟩ := H
   go_enter Try.func29, Try.ntmps29
   go_wp2_with (first | ((with_reducible refine gate_callee (f := 35) rfl ?_); refine goesL_ (some 15) rfl rfl Try.func35 (by kernel_rfl) rfl #[.slice A0 l0.length c0] rfl tA_ ?_; (with_reducible refine (hinterlandref10_ValidateKinds.calls k _ _ l0 t270 _ ?side1 ?side2 A3.out).mono ?_); (case side1 => repeat (first | exact HR0.out | (with_reducible refine Kd.C_alloc ?_ _) | (with_reducible refine Kd.C_drewN ?_ _) | (with_reducible refine Kd.C_drew ?_))); (case side2 => exact HC0.out); rintro e w32 ⟨rfl, hb⟩; refine ⟨_, rfl, ?_⟩; replace HB := Aside0.mk (below_step (dL_ HB) hb)) | ((with_reducible refine gate_callee (f := 36) rfl ?_); refine goesL_ (some 20) rfl rfl Try.func36 (by kernel_rfl) rfl #[.int .i64 a1, .int .i64 0, .int .i64 15] rfl tA_ ?_; (with_reducible refine (hinterlandref10_within.calls a1 0 15 false _ A5.out).mono ?_); rintro e w' ⟨rfl, ⟨nd, rfl⟩⟩; refine ⟨_, rfl, ?_⟩))
   go_ret3
   exact ⟨_, _, tE_, by first | exact Kd.R_nil _ _ _ _ _ | exact Kd.N_nil _ _ _ _ _ | exact Kd.V_nil _ _ _ _ _ | exact Kd.Q_nil _ _ _ _ _ | exact Kd.S_nil _ _ _ _ _, by first | exact Kd.R_nil _ _ _ _ _ | exact Kd.N_nil _ _ _ _ _ | exact Kd.V_nil _ _ _ _ _ | exact Kd.Q_nil _ _ _ _ _ | exact Kd.S_nil _ _ _ _ _, dL_ HB⟩
 ·rw [if_neg c4] at H
  have c4b0 : (t270 == 0) = false := beq_eq_false_iff_ne.mpr c4
  have c4b1 : (t270 != 0) = true := bne_iff_ne.mpr c4
  simp only [Option.some.injEq, Prod.mk.injEq] at H
  obtain ⟨rfl, rfl, rfl⟩ := H
  go_enter Try.func29, Try.ntmps29
  go_wp2_with (first | ((with_reducible refine gate_callee (f := 35) rfl ?_); refine goesL_ (some 15) rfl rfl Try.func35 (by kernel_rfl) rfl #[.slice A0 l0.length c0] rfl tA_ ?_; (with_reducible refine (hinterlandref10_ValidateKinds.calls k _ _ l0 t270 _ ?side1 ?side2 A3.out).mono ?_); (case side1 => repeat (first | exact HR0.out | (with_reducible refine Kd.C_alloc ?_ _) | (with_reducible refine Kd.C_drewN ?_ _) | (with_reducible refine Kd.C_drew ?_))); (case side2 => exact HC0.out); rintro e w33 ⟨rfl, hb⟩; refine ⟨_, rfl, ?_⟩; replace HB := Aside0.mk (below_step (dL_ HB) hb)))
  go_ret3
  exact ⟨_, _, tE_, by first | exact Kd.R_nil _ _ _ _ _ | exact Kd.N_nil _ _ _ _ _ | exact Kd.V_nil _ _ _ _ _ | exact Kd.Q_nil _ _ _ _ _ | exact Kd.S_nil _ _ _ _ _, by first | exact Kd.R_nil _ _ _ _ _ | exact Kd.N_nil _ _ _ _ _ | exact Kd.V_nil _ _ _ _ _ | exact Kd.Q_nil _ _ _ _ _ | exact Kd.S_nil _ _ _ _ _, dL_ HB⟩

end Go.Proofs.Ytnkgelnkoljgdaa.Q
