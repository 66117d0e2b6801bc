-- PRINTED by print.py out of the translation. Not trusted: Lean checks it.
import Derived.Test.YtnkgelnkoljgdaaPrs
import Derived.Test.YtnkgelnkoljgdaaQ0
import Derived.Test.YtnkgelnkoljgdaaQ23
namespace Go.Proofs.Ytnkgelnkoljgdaa.Q
open Go.RowKit Go.Proofs.YtnkgelnkoljgdaaPrs Go.Proofs.YtnkgelnkoljgdaaOwn Go.Proofs.YtnkgelnkoljgdaaW.PrintWords Go.Proofs.YtnkgelnkoljgdaaW.PrintLast Go.Proofs.YtnkgelnkoljgdaaW.PrintMore
attribute [local go_sem] max2_int min2_int max_two min_two max_three min_three max_four min_four   -- for this text's walks alone
set_option linter.unusedVariables false
set_option linter.unusedSimpArgs false

/-! ### hinterlandref10_ValidateKinds: function 35 -/
mutual
def hinterlandref10_ValidateKinds.l0 : Nat → List (S39) → List (S39) → Int → Int → Option (Int)
  | 0, _, _, _, _ => none
  | k + 1, x0, x12, x13, x14 => if x14 < x13 then (if 0 ≤ x14 then (if x14 < (x12.length : Int) then ((hinterlandref10_right.f k ((rd_T39 x12 x14).f0) ((rd_T39 x12 x14).f1) ((rd_T39 x12 x14).f2)).bind fun t310 => (if t310 = true then (hinterlandref10_ValidateKinds.l0 k x0 x12 x13 (wrap64 (x14 + 1))) else (some 1))) else (none)) else (none)) else (hinterlandref10_ValidateKinds.l1 k x0 x0 (x0.length : Int) 0)
def hinterlandref10_ValidateKinds.l1 : Nat → List (S39) → List (S39) → Int → Int → Option (Int)
  | 0, _, _, _, _ => none
  | k + 1, x0, x22, x23, x24 => if x24 < x23 then (if 0 ≤ x24 then (if x24 < (x22.length : Int) then (if x24 ≤ (x0.length : Int) then ((some (x0.take (x24 : Int).toNat : List (S39))).bind fun y313 => (hinterlandref10_ValidateKinds.l2 k x0 x22 x23 x24 y313 (y313.length : Int) 0 ((rd_T39 x22 x24).f0) ((rd_T39 x22 x24).f1) ((rd_T39 x22 x24).f2))) else (none)) else (none)) else (none)) else (some 0)
def hinterlandref10_ValidateKinds.l2 : Nat → List (S39) → List (S39) → Int → Int → List (S39) → Int → Int → ByteArray → List Int → List (S41) → Option (Int)
  | 0, _, _, _, _, _, _, _, _, _, _ => none
  | k + 1, x0, x22, x23, x24, x31, x32, x33, x313000, x313001, x313002 => if x33 < x32 then (if 0 ≤ x33 then (if x33 < (x31.length : Int) then (if ((rd_T39 x31 x33).f0).toList = x313000.toList then (some 3) else (hinterlandref10_ValidateKinds.l2 k x0 x22 x23 x24 x31 x32 (wrap64 (x33 + 1)) x313000 x313001 x313002)) else (none)) else (none)) else (hinterlandref10_ValidateKinds.l1 k x0 x22 x23 (wrap64 (x24 + 1)))
end
def hinterlandref10_ValidateKinds.f (k : Nat) (l0 : List (S39)) : Option (Int) := if (l0.length : Int) > 16 then (some 4) else (hinterlandref10_ValidateKinds.l0 k l0 l0 (l0.length : Int) 0)
theorem hinterlandref10_ValidateKinds.mono_l : ∀ k, (∀ y0 y1 y2 y3, LeO (hinterlandref10_ValidateKinds.l0 k y0 y1 y2 y3) (hinterlandref10_ValidateKinds.l0 (k + 1) y0 y1 y2 y3)) ∧ (∀ y0 y1 y2 y3, LeO (hinterlandref10_ValidateKinds.l1 k y0 y1 y2 y3) (hinterlandref10_ValidateKinds.l1 (k + 1) y0 y1 y2 y3)) ∧ (∀ y0 y1 y2 y3 y4 y5 y6 y7 y8 y9, LeO (hinterlandref10_ValidateKinds.l2 k y0 y1 y2 y3 y4 y5 y6 y7 y8 y9) (hinterlandref10_ValidateKinds.l2 (k + 1) y0 y1 y2 y3 y4 y5 y6 y7 y8 y9))
  | 0 => ⟨fun _ _ _ _ r h => by simp [hinterlandref10_ValidateKinds.l0] at h, fun _ _ _ _ r h => by simp [hinterlandref10_ValidateKinds.l1] at h, fun _ _ _ _ _ _ _ _ _ _ r h => by simp [hinterlandref10_ValidateKinds.l2] at h⟩
  | k + 1 => by
    obtain ⟨ih0, ih1, ih2⟩ := hinterlandref10_ValidateKinds.mono_l k; refine ⟨?_, ?_, ?_⟩
    · intro y0 y1 y2 y3
      unfold hinterlandref10_ValidateKinds.l0
      repeat' first
      | (with_reducible first | apply ih0 | apply ih1 | apply ih2 | apply hinterlandref10_right.mono | exact LeO.refl _ | exact LeO.none _ | refine LeO.ite ?_ ?_ | refine LeO.bind ?_ (fun _ => ?_))
    · intro y0 y1 y2 y3
      unfold hinterlandref10_ValidateKinds.l1
      repeat' first
      | (with_reducible first | apply ih0 | apply ih1 | apply ih2 | apply hinterlandref10_right.mono | exact LeO.refl _ | exact LeO.none _ | refine LeO.ite ?_ ?_ | refine LeO.bind ?_ (fun _ => ?_))
    · intro y0 y1 y2 y3 y4 y5 y6 y7 y8 y9
      unfold hinterlandref10_ValidateKinds.l2
      repeat' first
      | (with_reducible first | apply ih0 | apply ih1 | apply ih2 | apply hinterlandref10_right.mono | exact LeO.refl _ | exact LeO.none _ | refine LeO.ite ?_ ?_ | refine LeO.bind ?_ (fun _ => ?_))
theorem hinterlandref10_ValidateKinds.mono : ∀ a0 k, LeO (hinterlandref10_ValidateKinds.f k a0) (hinterlandref10_ValidateKinds.f (k + 1) a0) := by
  intro a0 k; obtain ⟨ih0, ih1, ih2⟩ := hinterlandref10_ValidateKinds.mono_l k
  unfold hinterlandref10_ValidateKinds.f
  repeat' first
      | (with_reducible first | apply ih0 | apply ih1 | apply ih2 | apply hinterlandref10_right.mono | exact LeO.refl _ | exact LeO.none _ | refine LeO.ite ?_ ?_ | refine LeO.bind ?_ (fun _ => ?_))
set_option maxHeartbeats 8000000 in
set_option maxRecDepth 100000 in
theorem hinterlandref10_ValidateKinds.calls (k : Nat) (A0 : Option Addr) (c0 : Nat) (l0 : List (S39)) (r : Int) (w : World) (hr0 : Kd.C k39 w A0 l0.length l0) (hc0 : l0.length ≤ c0) (h : hinterlandref10_ValidateKinds.f k l0 = some r) :
    Calls Try.prog 35 #[.slice A0 l0.length c0] w fun e w' => e = .returned (.int .i64 r) ∧ Below w.heap.size w w' := by
 have hu39 := Try.underlying39; have HR0 := Aside0.mk hr0; have HC0 := Aside0.mk hc0; clear hr0 hc0; have HB := Aside0.mk (Below.refl w.heap.size w); have H : (if (l0.length : Int) > 16 then (some 4) else (hinterlandref10_ValidateKinds.l0 k l0 l0 (l0.length : Int) 0)) = some r := h; clear h
 by_cases c2 : (l0.length : Int) > 16
 ·rw [if_pos c2] at H; have c2b0 : decide (16 < (l0.length : Int)) = true := decide_eq_true c2; have c2b1 : decide (16 < l0.length) = true := decide_eq_true (by omega); clear c2; obtain rfl := Option.some.inj H
  go_enter Try.func35, Try.ntmps35
  go_wp2
  go_ret
  exact ⟨tE_, dL_ HB⟩
 ·rw [if_neg c2] at H; have c2b0 : decide (16 < (l0.length : Int)) = false := decide_eq_false c2; have c2b1 : decide (16 < l0.length) = false := decide_eq_false (by omega); clear c2; have H' := Aside0.mk H; clear H
  go_enter Try.func35, Try.ntmps35
  go_wp2
  go_loopg [14] k (fun kq v14 w' => ∃ (x14_1 : Int), v14 = .int .i64 x14_1 ∧ Aside0 (hinterlandref10_ValidateKinds.l0 kq l0 l0 (l0.length : Int) x14_1 = some r) ∧ Aside0 (kq ≤ k) ∧ Aside0 (Below w.heap.size w w'))
  case atStart => exact ⟨(0), tS_, H', ⟨Nat.le_refl _⟩, ⟨dL_ HB⟩⟩
  case round =>
   clear H'; (try clear c2); (try clear c2b0); (try clear c2b1); obtain ⟨x14_1, rfl, HA, HK1, HB⟩ := hrel
   cases gk with
   | zero => exact absurd HA.out (by simp [hinterlandref10_ValidateKinds.l0])
   | succ k1 =>
    have H := HA.out; clear HA; simp only [hinterlandref10_ValidateKinds.l0] at H
    by_cases c3 : x14_1 < (l0.length : Int)
    ·rw [if_pos c3] at H; have c3b0 : decide (x14_1 < (l0.length : Int)) = true := decide_eq_true c3; clear c3
     by_cases c4 : 0 ≤ x14_1
     ·rw [if_pos c4] at H; have c4b0 : decide (0 ≤ x14_1) = true := decide_eq_true c4; clear c4
      by_cases c5 : x14_1 < (l0.length : Int)
      ·rw [if_pos c5] at H; have c5b0 : decide (x14_1 < (l0.length : Int)) = true := decide_eq_true c5; clear c5; replace H := Option.bind_eq_some_iff.mp H; obtain ⟨t310, A60, H⟩ := H; have A6 := Aside0.mk A60; clear A60
       by_cases c7 : t310 = true
       ·subst c7; rw [if_pos rfl] at H; have H' := Aside0.mk H; clear H; have p308 : 0 ≤ (x14_1 : Int) := of_decide_eq_true tW_; have q308 : x14_1 < (l0.length : Int) := of_decide_eq_true tW_; obtain ⟨ad308, A308_1, c308_1, A308_2, c308_2, e308, hx308_0, hx308_1, hx308_2, hl308_1, hi308_1, hl308_2, hi308_2⟩ := at_T39 HR0.out x14_1 p308 q308; cases e308; replace hx308_0 := bc_ HB hx308_0; replace hx308_1 := bc_ HB hx308_1; replace hx308_2 := bc_ HB hx308_2; have HR308_1 := Aside0.mk hi308_1; have HC308_1 := Aside0.mk hl308_1; clear hi308_1 hl308_1; have HR308_2 := Aside0.mk hi308_2; have HC308_2 := Aside0.mk hl308_2; clear hi308_2 hl308_2; replace p308 := eq_true p308; replace q308 := eq_true q308
        go_wp2_with (first | ((with_reducible refine gate_dst (N := 4) rfl ?_); refine bx_ (N := 4) (cs := #[.string (⟨#[]⟩ : ByteArray), .slice none 0 0, .slice none 0 0]) (t := 39) ?_; intro gb309 hg w8 hbox hb; have BK309 := Aside0.mk (hbox); have GW309 := Aside0.mk ((dS_ hg (dL_ HB) : w.heap.size ≤ gb309)); have GE309 := GW309; replace HB := Aside0.mk (below_step (dL_ HB) hb); clear hb hbox hg; obtain ⟨z9a, z9b, z9c, y9a, y9b, y9c⟩ := cs3_ BK309.out) | ((with_reducible refine gate_callee (f := 48) rfl ?_); refine gL_ (some 19) Try.func48 #[.agg #[.string ((rd_T39 l0 x14_1).f0), .slice A308_1 ((rd_T39 l0 x14_1).f1).length c308_1, .slice A308_2 ((rd_T39 l0 x14_1).f2).length c308_2]] ?_ rfl; (with_reducible refine (hinterlandref10_right.calls k1 ((rd_T39 l0 x14_1).f0) _ _ ((rd_T39 l0 x14_1).f1) _ _ ((rd_T39 l0 x14_1).f2) true _ ?side1 ?side2 ?side3 ?side4 A6.out).mono ?_); (case side1 => exact Kd.C_below HR308_1.out (dL1_ HB GE309)); (case side2 => exact HC308_1.out); (case side3 => exact Kd.C_below HR308_2.out (dL1_ HB GE309)); (case side4 => exact HC308_2.out); rintro e w10 ⟨rfl, hb⟩; refine ⟨_, rfl, ?_⟩; replace BK309 := Aside0.mk (blk_below (g := gb309) (o := .cells #[.string ((rd_T39 l0 x14_1).f0), .slice A308_1 ((rd_T39 l0 x14_1).f1).length c308_1, .slice A308_2 ((rd_T39 l0 x14_1).f2).length c308_2] 39 (0, 0)) (bz_ BK309) hb); replace HB := Aside0.mk (below_step (dL1_ HB GE309) hb)))
        go_roundg k1
        case measure => have := HK1.out; omega
        case rel => exact ⟨(wrap64 (x14_1 + 1)), tS_, H', ⟨by have := HK1.out; omega⟩, ⟨dL1_ HB GE309⟩⟩
       ·replace c7 := Bool.eq_false_iff.mpr c7; subst c7; rw [if_neg (show ¬ (false = true) by decide)] at H; obtain rfl := Option.some.inj H; have p308 : 0 ≤ (x14_1 : Int) := of_decide_eq_true tW_; have q308 : x14_1 < (l0.length : Int) := of_decide_eq_true tW_; obtain ⟨ad308, A308_1, c308_1, A308_2, c308_2, e308, hx308_0, hx308_1, hx308_2, hl308_1, hi308_1, hl308_2, hi308_2⟩ := at_T39 HR0.out x14_1 p308 q308; cases e308; replace hx308_0 := bc_ HB hx308_0; replace hx308_1 := bc_ HB hx308_1; replace hx308_2 := bc_ HB hx308_2; have HR308_1 := Aside0.mk hi308_1; have HC308_1 := Aside0.mk hl308_1; clear hi308_1 hl308_1; have HR308_2 := Aside0.mk hi308_2; have HC308_2 := Aside0.mk hl308_2; clear hi308_2 hl308_2; replace p308 := eq_true p308; replace q308 := eq_true q308
        go_wp2_with (first | ((with_reducible refine gate_dst (N := 4) rfl ?_); refine bx_ (N := 4) (cs := #[.string (⟨#[]⟩ : ByteArray), .slice none 0 0, .slice none 0 0]) (t := 39) ?_; intro gb309 hg w11 hbox hb; have BK309 := Aside0.mk (hbox); have GW309 := Aside0.mk ((dS_ hg (dL_ HB) : w.heap.size ≤ gb309)); have GE309 := GW309; replace HB := Aside0.mk (below_step (dL_ HB) hb); clear hb hbox hg; obtain ⟨z12a, z12b, z12c, y12a, y12b, y12c⟩ := cs3_ BK309.out) | ((with_reducible refine gate_callee (f := 48) rfl ?_); refine gL_ (some 19) Try.func48 #[.agg #[.string ((rd_T39 l0 x14_1).f0), .slice A308_1 ((rd_T39 l0 x14_1).f1).length c308_1, .slice A308_2 ((rd_T39 l0 x14_1).f2).length c308_2]] ?_ rfl; (with_reducible refine (hinterlandref10_right.calls k1 ((rd_T39 l0 x14_1).f0) _ _ ((rd_T39 l0 x14_1).f1) _ _ ((rd_T39 l0 x14_1).f2) false _ ?side1 ?side2 ?side3 ?side4 A6.out).mono ?_); (case side1 => exact Kd.C_below HR308_1.out (dL1_ HB GE309)); (case side2 => exact HC308_1.out); (case side3 => exact Kd.C_below HR308_2.out (dL1_ HB GE309)); (case side4 => exact HC308_2.out); rintro e w13 ⟨rfl, hb⟩; refine ⟨_, rfl, ?_⟩; replace BK309 := Aside0.mk (blk_below (g := gb309) (o := .cells #[.string ((rd_T39 l0 x14_1).f0), .slice A308_1 ((rd_T39 l0 x14_1).f1).length c308_1, .slice A308_2 ((rd_T39 l0 x14_1).f2).length c308_2] 39 (0, 0)) (bz_ BK309) hb); replace HB := Aside0.mk (below_step (dL1_ HB GE309) hb)))
        go_ret
        exact ⟨tE_, dL1_ HB GE309⟩
      ·rw [if_neg c5] at H; exact absurd H (by simp)
     ·rw [if_neg c4] at H; exact absurd H (by simp)
    ·rw [if_neg c3] at H; have c3b0 : decide (x14_1 < (l0.length : Int)) = false := decide_eq_false c3; clear c3; have H' := Aside0.mk H; clear H; go_wp2
     go_loopg [24] k1 (fun kq v24 w' => ∃ (x24_2 : Int), v24 = .int .i64 x24_2 ∧ Aside0 (hinterlandref10_ValidateKinds.l1 kq l0 l0 (l0.length : Int) x24_2 = some r) ∧ Aside0 (kq ≤ k1) ∧ Aside0 (Below w.heap.size w w'))
     case atStart => exact ⟨(0), tS_, H', ⟨Nat.le_refl _⟩, ⟨dL_ HB⟩⟩
     case round =>
      clear H'; (try clear c2); (try clear c2b0); (try clear c2b1); (try clear c3); (try clear c3b0); (try clear c4); (try clear c5); obtain ⟨x24_2, rfl, HA, HK2, HB⟩ := hrel
      cases gk with
      | zero => exact absurd HA.out (by simp [hinterlandref10_ValidateKinds.l1])
      | succ k2 =>
       have H := HA.out; clear HA; simp only [hinterlandref10_ValidateKinds.l1] at H
       by_cases c14 : x24_2 < (l0.length : Int)
       ·rw [if_pos c14] at H; have c14b0 : decide (x24_2 < (l0.length : Int)) = true := decide_eq_true c14; clear c14
        by_cases c15 : 0 ≤ x24_2
        ·rw [if_pos c15] at H; have c15b0 : decide (0 ≤ x24_2) = true := decide_eq_true c15; clear c15
         by_cases c16 : x24_2 < (l0.length : Int)
         ·rw [if_pos c16] at H; have c16b0 : decide (x24_2 < (l0.length : Int)) = true := decide_eq_true c16; clear c16; have c17b0 := eq_true (of_decide_eq_true tW_ : 0 ≤ x24_2)
          by_cases c18 : x24_2 ≤ (l0.length : Int)
          ·rw [if_pos c18] at H; have c18b0 := eq_true c18; have c18b1 : decide (x24_2 ≤ (l0.length : Int)) = true := decide_eq_true c18; clear c18; obtain ⟨y313, hy313⟩ : ∃ y_ : List (S39), y_ = (l0.take (x24_2 : Int).toNat) := ⟨_, rfl⟩; replace H : (hinterlandref10_ValidateKinds.l2 k2 l0 l0 (l0.length : Int) x24_2 y313 (y313.length : Int) 0 ((rd_T39 l0 x24_2).f0) ((rd_T39 l0 x24_2).f1) ((rd_T39 l0 x24_2).f2)) = some r := by first | (rw [hy313]; with_reducible exact H) | (have H2_ := (Option.bind_some _ _).symm.trans H; rw [hy313]; with_reducible exact H2_) | (have H2_ := (Option.bind_some _ _).symm.trans H; with_reducible exact H2_) | with_reducible exact H | (rw [hy313]; exact H) | exact H
           have Ny313 := Aside0.mk hy313; clear hy313; have H' := Aside0.mk H; clear H; have p311 : 0 ≤ (x24_2 : Int) := of_decide_eq_true tW_; have q311 : x24_2 < (l0.length : Int) := of_decide_eq_true tW_; obtain ⟨ad311, A311_1, c311_1, A311_2, c311_2, e311, hx311_0, hx311_1, hx311_2, hl311_1, hi311_1, hl311_2, hi311_2⟩ := at_T39 HR0.out x24_2 p311 q311; cases e311; replace hx311_0 := bc_ HB hx311_0; replace hx311_1 := bc_ HB hx311_1; replace hx311_2 := bc_ HB hx311_2; have HR311_1 := Aside0.mk hi311_1; have HC311_1 := Aside0.mk hl311_1; clear hi311_1 hl311_1; have HR311_2 := Aside0.mk hi311_2; have HC311_2 := Aside0.mk hl311_2; clear hi311_2 hl311_2; replace p311 := eq_true p311; replace q311 := eq_true q311
           go_wp2_with (first | ((with_reducible refine gate_dst (N := 6) rfl ?_); refine bx_ (N := 6) (cs := #[.string (⟨#[]⟩ : ByteArray), .slice none 0 0, .slice none 0 0]) (t := 39) ?_; intro gb312 hg w19 hbox hb; have BK312 := Aside0.mk (hbox); have GW312 := Aside0.mk ((dS_ hg (dL_ HB) : w.heap.size ≤ gb312)); have GE312 := GW312; replace HB := Aside0.mk (below_step (dL_ HB) hb); clear hb hbox hg; obtain ⟨z20a, z20b, z20c, y20a, y20b, y20c⟩ := cs3_ BK312.out) | ((with_reducible refine gate_store (t := 39) (p := 6) rfl ?_); refine store_event (t := 39) (p := 6) (v := ?vo_w21) (w1 := (((w19.setCell ⟨gb312, 0, none⟩ (.string ((rd_T39 l0 x24_2).f0))).setCell ⟨gb312, 1, none⟩ (.slice A311_1 ((rd_T39 l0 x24_2).f1).length c311_1)).setCell ⟨gb312, 2, none⟩ (.slice A311_2 ((rd_T39 l0 x24_2).f2).length c311_2))) ?hg ?ho ?hn ?hr ?_; (case ho => rfl); (case hg => rfl); (case hn => rfl); (case hr => first | (go_simp; done) | (go_simp; rfl)); intro w21 hw; have n0_ : Aside0 (w21.heap[gb312]? = some (.cells #[.string ((rd_T39 l0 x24_2).f0), .slice A311_1 ((rd_T39 l0 x24_2).f1).length c311_1, .slice A311_2 ((rd_T39 l0 x24_2).f2).length c311_2] 39 (0, 0))) := ⟨(by rw [hw]; exact (bz_ BK312))⟩; have n1_ : Aside0 (Below w.heap.size w w21) := ⟨(by rw [hw]; exact (dL1_ HB GE312))⟩; clear hw; clear BK312; clear HB; have BK312 := n0_; have HB := n1_; clear n0_ n1_; have q22 : (x24_2 : Int) ≤ ((l0.length : Int) : Int) := of_decide_eq_true tW_; obtain ⟨i022, hi022, _, hsz22, _⟩ := info_parts info39; have hroom22 : l0.length ≤ c0 := HC0.out; have hC22 : Kd.C k39 _ (some ad311) l0.length l0 := HR0.out; have hcut22 := cut_to (P := Try.prog) 22 39 .i64 Try.underlying22 hi022 (some ad311) l0.length c0 x24_2 (of_decide_eq_true tW_) q22 hroom22; have hr22 := Kd.C_take (m := (x24_2 : Int).toNat) hC22 (by omega); have hy22 : y313.length = (x24_2 : Int).toNat := (by rw [Ny313.out, List.length_take]; omega); rw [← Ny313.out] at hr22; rw [← hy22] at hcut22; have HR316 := Aside0.mk hr22; have HC316 := Aside0.mk (show y313.length ≤ c0 from by omega); clear hr22 hC22 hroom22 hi022 hsz22; have KY22 := Aside0.mk hy22; clear hy22; replace q22 := eq_true q22))
           go_loopg [33] k2 (fun kq v33 w' => ∃ (x33_3 : Int), v33 = .int .i64 x33_3 ∧ Aside0 (hinterlandref10_ValidateKinds.l2 kq l0 l0 (l0.length : Int) x24_2 y313 (y313.length : Int) x33_3 ((rd_T39 l0 x24_2).f0) ((rd_T39 l0 x24_2).f1) ((rd_T39 l0 x24_2).f2) = some r) ∧ Aside0 (kq ≤ k2) ∧ Aside0 (w'.heap[gb312]? = some (.cells #[.string ((rd_T39 l0 x24_2).f0), (.slice A311_1 ((rd_T39 l0 x24_2).f1).length c311_1), (.slice A311_2 ((rd_T39 l0 x24_2).f2).length c311_2)] 39 (0, 0))) ∧ Aside0 (Below w.heap.size w w'))
           case atStart => exact ⟨(0), tS_, H', ⟨Nat.le_refl _⟩, ⟨dB_ BK312⟩, ⟨dL1_ HB GE312⟩⟩
           case round =>
            clear H'; (try clear c2); (try clear c2b0); (try clear c2b1); (try clear c3); (try clear c3b0); (try clear c4); (try clear c5); (try clear c14); (try clear c14b0); (try clear c15); (try clear c15b0); (try clear c16); (try clear c16b0); (try clear c17b0); (try clear c18); (try clear c18b0); (try clear c18b1); (try clear q22); (try clear z20a z20b z20c y20a y20b y20c); (try clear hx311_0); (try clear hx311_1); (try clear hx311_2); (try clear p311); (try clear q22); (try clear q311); obtain ⟨x33_3, rfl, HA, HK3, BK312, HB⟩ := hrel
            cases gk with
            | zero => exact absurd HA.out (by simp [hinterlandref10_ValidateKinds.l2])
            | succ k3 =>
             have H := HA.out; clear HA; simp only [hinterlandref10_ValidateKinds.l2] at H
             by_cases c23 : x33_3 < (y313.length : Int)
             ·rw [if_pos c23] at H; have c23b0 : decide (x33_3 < (y313.length : Int)) = true := decide_eq_true c23; clear c23
              by_cases c24 : 0 ≤ x33_3
              ·rw [if_pos c24] at H; have c24b0 : decide (0 ≤ x33_3) = true := decide_eq_true c24; clear c24
               by_cases c25 : x33_3 < (y313.length : Int)
               ·rw [if_pos c25] at H; have c25b0 : decide (x33_3 < (y313.length : Int)) = true := decide_eq_true c25; clear c25
                by_cases c26 : ((rd_T39 y313 x33_3).f0).toList = ((rd_T39 l0 x24_2).f0).toList
                ·rw [if_pos c26] at H; have c26b0 : (((rd_T39 y313 x33_3).f0).toList == ((rd_T39 l0 x24_2).f0).toList) = true := beq_iff_eq.mpr c26; have c26b1 : (((rd_T39 y313 x33_3).f0).toList != ((rd_T39 l0 x24_2).f0).toList) = false := bne_eq_false_iff_eq.mpr c26; clear c26; obtain rfl := Option.some.inj H; have p317 : 0 ≤ (x33_3 : Int) := of_decide_eq_true tW_; have q317 : x33_3 < (y313.length : Int) := of_decide_eq_true tW_; obtain ⟨ad317, A317_1, c317_1, A317_2, c317_2, e317, hx317_0, hx317_1, hx317_2, hl317_1, hi317_1, hl317_2, hi317_2⟩ := at_T39 HR316.out x33_3 p317 q317; obtain rfl : ad311 = ad317 := (by injection e317); replace hx317_0 := bc_ HB hx317_0; replace hx317_1 := bc_ HB hx317_1; replace hx317_2 := bc_ HB hx317_2; have HR317_1 := Aside0.mk hi317_1; have HC317_1 := Aside0.mk hl317_1; clear hi317_1 hl317_1; have HR317_2 := Aside0.mk hi317_2; have HC317_2 := Aside0.mk hl317_2; clear hi317_2 hl317_2; replace p317 := eq_true p317; replace q317 := eq_true q317
                 go_wp2_with (first | ((with_reducible refine gate_dst (N := 8) rfl ?_); refine bx_ (N := 8) (cs := #[.string (⟨#[]⟩ : ByteArray), .slice none 0 0, .slice none 0 0]) (t := 39) ?_; intro gb318 hg w27 hbox hb; have BK318 := Aside0.mk (hbox); have GW318 := Aside0.mk ((dS_ hg (dL1_ HB GE312) : w.heap.size ≤ gb318)); have GE318 := GW318; replace HB := Aside0.mk (below_step (dL1_ HB GE312) hb); have NB312_318 := nb_ hg BK312; have NB318_312 := nc_ hg BK312; replace BK312 := bk_ BK312 hb; clear hb hbox hg; have hnb28 := NB318_312.out; have hnc28 := NB312_318.out; obtain ⟨z29a, z29b, z29c, y29a, y29b, y29c⟩ := cs3_ BK318.out; obtain ⟨z30a, z30b, z30c, y30a, y30b, y30c⟩ := cs3_ BK312.out))
                 go_ret
                 exact ⟨tE_, dL2_ HB GE312 GE318⟩
                ·rw [if_neg c26] at H; have c26b0 : (((rd_T39 y313 x33_3).f0).toList == ((rd_T39 l0 x24_2).f0).toList) = false := beq_eq_false_iff_ne.mpr c26; have c26b1 : (((rd_T39 y313 x33_3).f0).toList != ((rd_T39 l0 x24_2).f0).toList) = true := bne_iff_ne.mpr c26; have H' := Aside0.mk H; clear H; have p317 : 0 ≤ (x33_3 : Int) := of_decide_eq_true tW_; have q317 : x33_3 < (y313.length : Int) := of_decide_eq_true tW_; obtain ⟨ad317, A317_1, c317_1, A317_2, c317_2, e317, hx317_0, hx317_1, hx317_2, hl317_1, hi317_1, hl317_2, hi317_2⟩ := at_T39 HR316.out x33_3 p317 q317; obtain rfl : ad311 = ad317 := (by injection e317); replace hx317_0 := bc_ HB hx317_0; replace hx317_1 := bc_ HB hx317_1; replace hx317_2 := bc_ HB hx317_2; have HR317_1 := Aside0.mk hi317_1; have HC317_1 := Aside0.mk hl317_1; clear hi317_1 hl317_1; have HR317_2 := Aside0.mk hi317_2; have HC317_2 := Aside0.mk hl317_2; clear hi317_2 hl317_2; replace p317 := eq_true p317; replace q317 := eq_true q317
                 go_wp2_with (first | ((with_reducible refine gate_dst (N := 8) rfl ?_); refine bx_ (N := 8) (cs := #[.string (⟨#[]⟩ : ByteArray), .slice none 0 0, .slice none 0 0]) (t := 39) ?_; intro gb318 hg w31 hbox hb; have BK318 := Aside0.mk (hbox); have GW318 := Aside0.mk ((dS_ hg (dL1_ HB GE312) : w.heap.size ≤ gb318)); have GE318 := GW318; replace HB := Aside0.mk (below_step (dL1_ HB GE312) hb); have NB312_318 := nb_ hg BK312; have NB318_312 := nc_ hg BK312; replace BK312 := bk_ BK312 hb; clear hb hbox hg; have hnb32 := NB318_312.out; have hnc32 := NB312_318.out; obtain ⟨z33a, z33b, z33c, y33a, y33b, y33c⟩ := cs3_ BK318.out; obtain ⟨z34a, z34b, z34c, y34a, y34b, y34c⟩ := cs3_ BK312.out))
                 go_roundg k3
                 case measure => have := HK1.out; have := HK2.out; have := HK3.out; omega
                 case rel => exact ⟨(wrap64 (x33_3 + 1)), tS_, H', ⟨by have := HK1.out; have := HK2.out; have := HK3.out; omega⟩, ⟨bz_ BK312⟩, ⟨dL2_ HB GE312 GE318⟩⟩
               ·rw [if_neg c25] at H; exact absurd H (by simp)
              ·rw [if_neg c24] at H; exact absurd H (by simp)
             ·rw [if_neg c23] at H; have c23b0 : decide (x33_3 < (y313.length : Int)) = false := decide_eq_false c23; clear c23; have H' := Aside0.mk H; clear H; go_wp2
              go_roundg k3
              case measure => have := HK1.out; have := HK2.out; have := HK3.out; omega
              case rel => exact ⟨(wrap64 (x24_2 + 1)), tS_, H', ⟨by have := HK1.out; have := HK2.out; have := HK3.out; omega⟩, ⟨dL1_ HB GE312⟩⟩
          ·rw [if_neg c18] at H; exact absurd H (by simp)
         ·rw [if_neg c16] at H; exact absurd H (by simp)
        ·rw [if_neg c15] at H; exact absurd H (by simp)
       ·rw [if_neg c14] at H; have c14b0 : decide (x24_2 < (l0.length : Int)) = false := decide_eq_false c14; clear c14; obtain rfl := Option.some.inj H; go_wp2
        go_ret
        exact ⟨tE_, dL_ HB⟩

end Go.Proofs.Ytnkgelnkoljgdaa.Q
