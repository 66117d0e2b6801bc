-- PRINTED by print.py out of the translation. Not trusted: Lean checks it.
import Derived.Test.YtgnahbjpockdmabPrs
import Derived.Test.YtgnahbjpockdmabQ0
import Derived.Test.YtgnahbjpockdmabQ8
import Derived.Test.YtgnahbjpockdmabQ1
namespace Go.Proofs.Ytgnahbjpockdmab.Q
open Go.RowKit Go.Proofs.YtgnahbjpockdmabPrs Go.Proofs.YtgnahbjpockdmabOwn Go.Proofs.YtgnahbjpockdmabW.PrintWords Go.Proofs.YtgnahbjpockdmabW.PrintLast Go.Proofs.YtgnahbjpockdmabW.PrintMore
attribute [local go_sem] max2_int min2_int max_two min_two max_three min_three max_four min_four   -- for this text's walks alone
set_option linter.unusedVariables false
set_option linter.unusedSimpArgs false

/-! ### fleet_Facts: function 14 -/
def fleet_Facts.l0 : Nat → List (S52) → List Int → Int → Int → Int → Int → Int → Int → Int → Int → Int → Bool → Option (Int × Int × Int × Int × Int × Int × Int × Bool × Int)
  | 0, _, _, _, _, _, _, _, _, _, _, _, _ => none
  | k + 1, x0, x19, x20, x21, x173000, x173001, x173002, x173003, x173004, x173005, x173006, x173007 => if x21 < x20 then (if 0 ≤ x21 then (if x21 < (x19.length : Int) then (if 0 ≤ (rd x19 x21) then (if (rd x19 x21) < (x0.length : Int) then ((fleet_engine_add.f ((rd_T52 x0 (rd x19 x21)).f0) ((rd_T52 x0 (rd x19 x21)).f1) ((rd_T52 x0 (rd x19 x21)).f2) ((rd_T52 x0 (rd x19 x21)).f3) ((rd_T52 x0 (rd x19 x21)).f4) ((rd_T52 x0 (rd x19 x21)).f5) ((rd_T52 x0 (rd x19 x21)).f6) ((rd_T52 x0 (rd x19 x21)).f7) ((rd_T52 x0 (rd x19 x21)).f8) ((rd_T52 x0 (rd x19 x21)).f9) ((rd_T52 x0 (rd x19 x21)).f10) ((rd_T52 x0 (rd x19 x21)).f11) ((rd_T52 x0 (rd x19 x21)).f12) ((rd_T52 x0 (rd x19 x21)).f13) x173000 x173001 x173002 x173003 x173004 x173005 x173006 x173007).bind fun bt175 => (fleet_Facts.l0 k x0 x19 x20 (wrap64 (x21 + 1)) bt175.1 bt175.2.1 bt175.2.2.1 bt175.2.2.2.1 bt175.2.2.2.2.1 bt175.2.2.2.2.2.1 bt175.2.2.2.2.2.2.1 bt175.2.2.2.2.2.2.2)) else (none)) else (none)) else (none)) else (none)) else (if x173000 = 0 then (some (600, x173001, x173002, x173003, x173004, x173005, x173006, x173007, 0)) else (some (x173000, x173001, x173002, x173003, x173004, x173005, x173006, x173007, 0)))
def fleet_Facts.f (k : Nat) (l0 : List (S52)) (l1 : List Int) : Option (Int × Int × Int × Int × Int × Int × Int × Bool × Int) := (fleet_joined.f k l0 l1).bind fun t171 => (if t171 = 0 then (fleet_Facts.l0 k l0 l1 (l1.length : Int) 0 0 0 0 0 0 0 0 false) else (some (0, 0, 0, 0, 0, 0, 0, false, t171)))
theorem fleet_Facts.mono_l : ∀ k, (∀ y0 y1 y2 y3 y4 y5 y6 y7 y8 y9 y10 y11, LeO (fleet_Facts.l0 k y0 y1 y2 y3 y4 y5 y6 y7 y8 y9 y10 y11) (fleet_Facts.l0 (k + 1) y0 y1 y2 y3 y4 y5 y6 y7 y8 y9 y10 y11))
  | 0 => fun _ _ _ _ _ _ _ _ _ _ _ _ r h => by simp [fleet_Facts.l0] at h
  | k + 1 => by
    have ih0 := fleet_Facts.mono_l k
    · intro y0 y1 y2 y3 y4 y5 y6 y7 y8 y9 y10 y11
      unfold fleet_Facts.l0
      repeat' first
      | (with_reducible first | apply ih0 | apply fleet_joined.mono | exact LeO.refl _ | exact LeO.none _ | refine LeO.ite ?_ ?_ | refine LeO.bind ?_ (fun _ => ?_))
theorem fleet_Facts.mono : ∀ a0 a1 k, LeO (fleet_Facts.f k a0 a1) (fleet_Facts.f (k + 1) a0 a1) := by
  intro a0 a1 k; have ih0 := fleet_Facts.mono_l k
  unfold fleet_Facts.f
  repeat' first
      | (with_reducible first | apply ih0 | apply fleet_joined.mono | exact LeO.refl _ | exact LeO.none _ | refine LeO.ite ?_ ?_ | refine LeO.bind ?_ (fun _ => ?_))
set_option maxHeartbeats 8000000 in
set_option maxRecDepth 100000 in
theorem fleet_Facts.calls (k : Nat) (A0 : Option Addr) (c0 : Nat) (l0 : List (S52)) (A1 : Option Addr) (c1 : Nat) (l1 : List Int) (r1 : Int) (r2 : Int) (r3 : Int) (r4 : Int) (r5 : Int) (r6 : Int) (r7 : Int) (r8 : Bool) (r9 : Int) (w : World) (hr0 : Kd.C k52 w A0 l0.length l0) (hc0 : l0.length ≤ c0) (hr1 : Kd.C (Kd.int .i64) w A1 l1.length l1) (hc1 : l1.length ≤ c1) (h : fleet_Facts.f k l0 l1 = some (r1, r2, r3, r4, r5, r6, r7, r8, r9)) :
    Calls Try.prog 14 #[.slice A0 l0.length c0, .slice A1 l1.length c1] w fun e w' => e = .returned (.tuple #[.agg #[.int .i64 r1, .int .i64 r2, .int .i64 r3, .int .i64 r4, .int .i64 r5, .int .i64 r6, .int .i64 r7, .bool r8], .int .i64 r9]) ∧ Below w.heap.size w w' := by
 have hu42 := Try.underlying42; have hu52 := Try.underlying52; have hu71 := Try.underlying71; have HR0 := Aside0.mk hr0; have HC0 := Aside0.mk hc0; clear hr0 hc0; have HR1 := Aside0.mk hr1; have HC1 := Aside0.mk hc1; clear hr1 hc1; have HB := Aside0.mk (Below.refl w.heap.size w); have H : ((fleet_joined.f k l0 l1).bind fun t171 => (if t171 = 0 then (fleet_Facts.l0 k l0 l1 (l1.length : Int) 0 0 0 0 0 0 0 0 false) else (some (0, 0, 0, 0, 0, 0, 0, false, t171)))) = some (r1, r2, r3, r4, r5, r6, r7, r8, r9) := h; clear h; replace H := Option.bind_eq_some_iff.mp H; obtain ⟨t171, A30, H⟩ := H; have A3 := Aside0.mk A30; clear A30
 by_cases c4 : t171 = 0
 ·rw [if_pos c4] at H; have c4b0 : (t171 == 0) = true := beq_iff_eq.mpr c4; have c4b1 : (t171 != 0) = false := bne_eq_false_iff_eq.mpr c4; clear c4; have H' := Aside0.mk H; clear H
  go_enter Try.func14, Try.ntmps14
  go_wp2_with (first | ((with_reducible refine gate_dst (N := 4) rfl ?_); refine bx_ (N := 4) (cs := #[.int .i64 0, .int .i64 0, .int .i64 0, .int .i64 0, .int .i64 0, .int .i64 0, .int .i64 0, .bool false]) (t := 42) ?_; intro gb170 hg w5 hbox hb; have BK170 := Aside0.mk (hbox); have GW170 := Aside0.mk ((dS_ hg (dL_ HB) : w.heap.size ≤ gb170)); have GE170 := GW170; replace HB := Aside0.mk (below_step (dL_ HB) hb); clear hb hbox hg) | ((with_reducible refine gate_callee (f := 28) rfl ?_); refine gL_ (some 13) Try.func28 #[.slice A0 l0.length c0, .slice A1 l1.length c1] ?_ rfl; (with_reducible refine (fleet_joined.calls k _ _ l0 _ _ l1 t171 _ ?side1 ?side2 ?side3 ?side4 A3.out).mono ?_); (case side1 => exact dC_ HR0 HB); (case side2 => exact HC0.out); (case side3 => exact dC_ HR1 HB); (case side4 => exact HC1.out); rintro e w6 ⟨rfl, hb⟩; refine ⟨_, rfl, ?_⟩; replace BK170 := bk_ BK170 hb; replace HB := Aside0.mk (below_step (dL1_ HB GE170) hb)) | ((with_reducible refine gate_dst (N := 8) rfl ?_); refine bx_ (N := 8) (cs := #[.int .i64 0, .int .i64 0, .int .i64 0, .int .i64 0, .int .i64 0, .int .i64 0, .int .i64 0, .bool false]) (t := 42) ?_; intro gb172 hg w7 hbox hb; have BK172 := Aside0.mk (hbox); have GW172 := Aside0.mk ((dS_ hg (dL1_ HB GE170) : w.heap.size ≤ gb172)); have GE172 := GW172; replace HB := Aside0.mk (below_step (dL1_ HB GE170) hb); have NB170_172 := nb_ hg BK170; have NB172_170 := nc_ hg BK170; replace BK170 := bk_ BK170 hb; clear hb hbox hg))
  go_loopg [21] k (fun kq v21 w' => ∃ (x21_1 : Int) (x173000_1 : Int) (x173001_1 : Int) (x173002_1 : Int) (x173003_1 : Int) (x173004_1 : Int) (x173005_1 : Int) (x173006_1 : Int) (x173007_1 : Bool), v21 = .int .i64 x21_1 ∧ Aside0 (fleet_Facts.l0 kq l0 l1 (l1.length : Int) x21_1 x173000_1 x173001_1 x173002_1 x173003_1 x173004_1 x173005_1 x173006_1 x173007_1 = some (r1, r2, r3, r4, r5, r6, r7, r8, r9)) ∧ Aside0 (kq ≤ k) ∧ Aside0 (w'.heap[gb170]? = some (.cells #[.int .i64 0, .int .i64 0, .int .i64 0, .int .i64 0, .int .i64 0, .int .i64 0, .int .i64 0, .bool false] 42 (0, 0))) ∧ Aside0 (w'.heap[gb172]? = some (.cells #[.int .i64 x173000_1, .int .i64 x173001_1, .int .i64 x173002_1, .int .i64 x173003_1, .int .i64 x173004_1, .int .i64 x173005_1, .int .i64 x173006_1, .bool x173007_1] 42 (0, 0))) ∧ Aside0 (Below w.heap.size w w'))
  case atStart => exact ⟨(0), (0), (0), (0), (0), (0), (0), (0), (false), tS_, H', ⟨Nat.le_refl _⟩, ⟨dB_ BK170⟩, ⟨dB_ BK172⟩, ⟨dL2_ HB GE170 GE172⟩⟩
  case round =>
   clear H'; (try clear c1); (try clear c4); (try clear c4b0); (try clear c4b1); obtain ⟨x21_1, x173000_1, x173001_1, x173002_1, x173003_1, x173004_1, x173005_1, x173006_1, x173007_1, rfl, HA, HK1, BK170, BK172, HB⟩ := hrel
   cases gk with
   | zero => exact absurd HA.out (by simp [fleet_Facts.l0])
   | succ k1 =>
    have H := HA.out; clear HA; simp only [fleet_Facts.l0] at H
    by_cases c8 : x21_1 < (l1.length : Int)
    ·rw [if_pos c8] at H; have c8b0 : decide (x21_1 < (l1.length : Int)) = true := decide_eq_true c8; clear c8
     by_cases c9 : 0 ≤ x21_1
     ·rw [if_pos c9] at H; have c9b0 : decide (0 ≤ x21_1) = true := decide_eq_true c9; clear c9
      by_cases c10 : x21_1 < (l1.length : Int)
      ·rw [if_pos c10] at H; have c10b0 : decide (x21_1 < (l1.length : Int)) = true := decide_eq_true c10; clear c10
       by_cases c11 : 0 ≤ (rd l1 x21_1)
       ·rw [if_pos c11] at H; have c11b0 : decide (0 ≤ (rd l1 x21_1)) = true := decide_eq_true c11; clear c11
        by_cases c12 : (rd l1 x21_1) < (l0.length : Int)
        ·rw [if_pos c12] at H; have c12b0 : decide ((rd l1 x21_1) < (l0.length : Int)) = true := decide_eq_true c12; clear c12; replace H := Option.bind_eq_some_iff.mp H; obtain ⟨⟨t175, t176, t177, t178, t179, t180, t181, t182⟩, A130, H⟩ := H; have A13 := Aside0.mk A130; clear A130; have H' := Aside0.mk H; clear H; have p173 : 0 ≤ (x21_1 : Int) := of_decide_eq_true tW_; have q173 : x21_1 < (l1.length : Int) := of_decide_eq_true tW_; obtain ⟨ad173, e173, hx173_0⟩ := Kd.at_int HR1.out x21_1 p173 q173; cases e173; replace hx173_0 := bc_ HB hx173_0; replace p173 := eq_true p173; replace q173 := eq_true q173; have p174 : 0 ≤ ((rd l1 x21_1) : Int) := of_decide_eq_true tW_; have q174 : (rd l1 x21_1) < (l0.length : Int) := of_decide_eq_true tW_; obtain ⟨ad174, e174, hx174_0, hx174_1, hx174_2, hx174_3, hx174_4, hx174_5, hx174_6, hx174_7, hx174_8, hx174_9, hx174_10, hx174_11, hx174_12, hx174_13⟩ := at_T52 HR0.out (rd l1 x21_1) p174 q174; cases e174; replace hx174_0 := bc_ HB hx174_0; replace hx174_1 := bc_ HB hx174_1; replace hx174_2 := bc_ HB hx174_2; replace hx174_3 := bc_ HB hx174_3; replace hx174_4 := bc_ HB hx174_4; replace hx174_5 := bc_ HB hx174_5; replace hx174_6 := bc_ HB hx174_6; replace hx174_7 := bc_ HB hx174_7; replace hx174_8 := bc_ HB hx174_8; replace hx174_9 := bc_ HB hx174_9; replace hx174_10 := bc_ HB hx174_10; replace hx174_11 := bc_ HB hx174_11; replace hx174_12 := bc_ HB hx174_12; replace hx174_13 := bc_ HB hx174_13; replace p174 := eq_true p174; replace q174 := eq_true q174
         go_wp2_with (first | ((with_reducible refine gate_dst (N := 32) rfl ?_); refine methcall_event (N := 32) (t := 69) (nm := "hinterland/fleet.add") (T := 71) (rv := .agg #[.string ((rd_T52 l0 (rd l1 x21_1)).f0), .int .i64 ((rd_T52 l0 (rd l1 x21_1)).f1), .int .i64 ((rd_T52 l0 (rd l1 x21_1)).f2), .int .i64 ((rd_T52 l0 (rd l1 x21_1)).f3), .int .i64 ((rd_T52 l0 (rd l1 x21_1)).f4), .int .i64 ((rd_T52 l0 (rd l1 x21_1)).f5), .int .i64 ((rd_T52 l0 (rd l1 x21_1)).f6), .int .i64 ((rd_T52 l0 (rd l1 x21_1)).f7), .int .i64 ((rd_T52 l0 (rd l1 x21_1)).f8), .int .i64 ((rd_T52 l0 (rd l1 x21_1)).f9), .int .i64 ((rd_T52 l0 (rd l1 x21_1)).f10), .int .i64 ((rd_T52 l0 (rd l1 x21_1)).f11), .int .i64 ((rd_T52 l0 (rd l1 x21_1)).f12), .bool ((rd_T52 l0 (rd l1 x21_1)).f13)]) (pv := .pointer (some ⟨gb172, 0, none⟩)) (f := 72) rfl rfl rfl rfl rfl rfl Try.func72 (by kernel_rfl) rfl (by kernel_rfl) (meth72 _) ?_; (with_reducible refine (fleet_engine_add.calls ((rd_T52 l0 (rd l1 x21_1)).f0) ((rd_T52 l0 (rd l1 x21_1)).f1) ((rd_T52 l0 (rd l1 x21_1)).f2) ((rd_T52 l0 (rd l1 x21_1)).f3) ((rd_T52 l0 (rd l1 x21_1)).f4) ((rd_T52 l0 (rd l1 x21_1)).f5) ((rd_T52 l0 (rd l1 x21_1)).f6) ((rd_T52 l0 (rd l1 x21_1)).f7) ((rd_T52 l0 (rd l1 x21_1)).f8) ((rd_T52 l0 (rd l1 x21_1)).f9) ((rd_T52 l0 (rd l1 x21_1)).f10) ((rd_T52 l0 (rd l1 x21_1)).f11) ((rd_T52 l0 (rd l1 x21_1)).f12) ((rd_T52 l0 (rd l1 x21_1)).f13) x173000_1 x173001_1 x173002_1 x173003_1 x173004_1 x173005_1 x173006_1 x173007_1 t175 t176 t177 t178 t179 t180 t181 t182 gb172 _ (dB_ BK172) A13.out).mono ?_); rintro e w14 ⟨rfl, hbox, hoth, hbel⟩; refine ⟨_, rfl, ?_⟩; replace BK170 := Aside0.mk (hoth _ _ NB170_172.out (dB_ BK170)); replace BK172 := Aside0.mk (hbox); replace HB := Aside0.mk (hbel _ _ (dL2_ HB GE170 GE172) GE172.out); clear hbox hoth hbel))
         go_roundg k1
         case measure => have := HK1.out; omega
         case rel => exact ⟨(wrap64 (x21_1 + 1)), (t175), (t176), (t177), (t178), (t179), (t180), (t181), (t182), tS_, H', ⟨by have := HK1.out; omega⟩, ⟨dB_ BK170⟩, ⟨dB_ BK172⟩, ⟨dL2_ HB GE170 GE172⟩⟩
        ·rw [if_neg c12] at H; exact absurd H (by simp)
       ·rw [if_neg c11] at H; exact absurd H (by simp)
      ·rw [if_neg c10] at H; exact absurd H (by simp)
     ·rw [if_neg c9] at H; exact absurd H (by simp)
    ·rw [if_neg c8] at H; have c8b0 : decide (x21_1 < (l1.length : Int)) = false := decide_eq_false c8; clear c8
     by_cases c15 : x173000_1 = 0
     ·rw [if_pos c15] at H; have c15b0 : (x173000_1 == 0) = true := beq_iff_eq.mpr c15; have c15b1 : (x173000_1 != 0) = false := bne_eq_false_iff_eq.mpr c15; clear c15; simp only [Option.some.injEq, Prod.mk.injEq] at H; obtain ⟨rfl, rfl, rfl, rfl, rfl, rfl, rfl, rfl, rfl⟩ := H; have hnb16 := NB172_170.out; have hnc16 := NB170_172.out; obtain ⟨hcz17_0, hcz17_1, hcz17_2, hcz17_3, hcz17_4, hcz17_5, hcz17_6, hcz17_7, hfz17_0, hfz17_1, hfz17_2, hfz17_3, hfz17_4, hfz17_5, hfz17_6, hfz17_7⟩ := cs8_ BK172.out; obtain ⟨hcz18_0, hcz18_1, hcz18_2, hcz18_3, hcz18_4, hcz18_5, hcz18_6, hcz18_7, hfz18_0, hfz18_1, hfz18_2, hfz18_3, hfz18_4, hfz18_5, hfz18_6, hfz18_7⟩ := cs8_ BK170.out; go_wp2; refine bodyPost_ret (results_ct rfl _ _ gb170 42 #[.int .i64 600, .int .i64 x173001_1, .int .i64 x173002_1, .int .i64 x173003_1, .int .i64 x173004_1, .int .i64 x173005_1, .int .i64 x173006_1, .bool x173007_1] (0, 0) _ rfl (bz_ BK170) Try.underlying42 rfl (by kernel_rfl)) rfl ?_; exact ⟨tE_, dL2_ HB GE170 GE172⟩
     ·rw [if_neg c15] at H; have c15b0 : (x173000_1 == 0) = false := beq_eq_false_iff_ne.mpr c15; have c15b1 : (x173000_1 != 0) = true := bne_iff_ne.mpr c15; simp only [Option.some.injEq, Prod.mk.injEq] at H; obtain ⟨rfl, rfl, rfl, rfl, rfl, rfl, rfl, rfl, rfl⟩ := H; have hnb19 := NB172_170.out; have hnc19 := NB170_172.out; obtain ⟨hcz20_0, hcz20_1, hcz20_2, hcz20_3, hcz20_4, hcz20_5, hcz20_6, hcz20_7, hfz20_0, hfz20_1, hfz20_2, hfz20_3, hfz20_4, hfz20_5, hfz20_6, hfz20_7⟩ := cs8_ BK172.out; obtain ⟨hcz21_0, hcz21_1, hcz21_2, hcz21_3, hcz21_4, hcz21_5, hcz21_6, hcz21_7, hfz21_0, hfz21_1, hfz21_2, hfz21_3, hfz21_4, hfz21_5, hfz21_6, hfz21_7⟩ := cs8_ BK170.out; go_wp2; refine bodyPost_ret (results_ct rfl _ _ gb170 42 #[.int .i64 x173000_1, .int .i64 x173001_1, .int .i64 x173002_1, .int .i64 x173003_1, .int .i64 x173004_1, .int .i64 x173005_1, .int .i64 x173006_1, .bool x173007_1] (0, 0) _ rfl (dP8_ BK170) Try.underlying42 rfl (by kernel_rfl)) rfl ?_; exact ⟨tE_, dL2_ HB GE170 GE172⟩
 ·rw [if_neg c4] at H; have c4b0 : (t171 == 0) = false := beq_eq_false_iff_ne.mpr c4; have c4b1 : (t171 != 0) = true := bne_iff_ne.mpr c4; simp only [Option.some.injEq, Prod.mk.injEq] at H; obtain ⟨rfl, rfl, rfl, rfl, rfl, rfl, rfl, rfl, rfl⟩ := H
  go_enter Try.func14, Try.ntmps14
  go_wp2_with (first | ((with_reducible refine gate_dst (N := 4) rfl ?_); refine bx_ (N := 4) (cs := #[.int .i64 0, .int .i64 0, .int .i64 0, .int .i64 0, .int .i64 0, .int .i64 0, .int .i64 0, .bool false]) (t := 42) ?_; intro gb170 hg w22 hbox hb; have BK170 := Aside0.mk (hbox); have GW170 := Aside0.mk ((dS_ hg (dL_ HB) : w.heap.size ≤ gb170)); have GE170 := GW170; replace HB := Aside0.mk (below_step (dL_ HB) hb); clear hb hbox hg) | ((with_reducible refine gate_callee (f := 28) rfl ?_); refine gL_ (some 13) Try.func28 #[.slice A0 l0.length c0, .slice A1 l1.length c1] ?_ rfl; (with_reducible refine (fleet_joined.calls k _ _ l0 _ _ l1 t171 _ ?side1 ?side2 ?side3 ?side4 A3.out).mono ?_); (case side1 => exact dC_ HR0 HB); (case side2 => exact HC0.out); (case side3 => exact dC_ HR1 HB); (case side4 => exact HC1.out); rintro e w23 ⟨rfl, hb⟩; refine ⟨_, rfl, ?_⟩; replace BK170 := bk_ BK170 hb; replace HB := Aside0.mk (below_step (dL1_ HB GE170) hb); obtain ⟨hcz24_0, hcz24_1, hcz24_2, hcz24_3, hcz24_4, hcz24_5, hcz24_6, hcz24_7, hfz24_0, hfz24_1, hfz24_2, hfz24_3, hfz24_4, hfz24_5, hfz24_6, hfz24_7⟩ := cs8_ BK170.out))
  refine bodyPost_ret (results_ct rfl _ _ gb170 42 #[.int .i64 0, .int .i64 0, .int .i64 0, .int .i64 0, .int .i64 0, .int .i64 0, .int .i64 0, .bool false] (0, 0) _ rfl (dP8_ BK170) Try.underlying42 rfl (by kernel_rfl)) rfl ?_; exact ⟨tE_, dL1_ HB GE170⟩

end Go.Proofs.Ytgnahbjpockdmab.Q
namespace Go.Proofs.Ytgnahbjpockdmab.Q
open Go.RowKit Go.Proofs.YtgnahbjpockdmabPrs Go.Proofs.YtgnahbjpockdmabOwn Go.Proofs.YtgnahbjpockdmabW.PrintWords Go.Proofs.YtgnahbjpockdmabW.PrintLast Go.Proofs.YtgnahbjpockdmabW.PrintMore
attribute [local go_sem] max2_int min2_int max_two min_two max_three min_three max_four min_four   -- for this text's walks alone
set_option linter.unusedVariables false
set_option linter.unusedSimpArgs false

/-! ### fleet_Speed: function 17 -/
def fleet_Speed.j0 : Nat → Int → Int → Int → Int → Bool → Int → Int → Int → Int → Int → Int → Int → Bool → Option (Int × Int)
  | 0, _, _, _, _, _, _, _, _, _, _, _, _, _ => none
  | k + 1, x1, x2, x3, x4, x57, x184000, x184001, x184002, x184003, x184004, x184005, x184006, x184007 => if x57 = true then (some (0, 1)) else (if (mx x2 1) = 0 then (none) else (if x2 > (mn x184000 x3) then (some (mx (mn x184000 x3) (wrap64 (x2 - 10)), 0)) else (if (wrap64 ((mn (wrap64 (1000 * x184003)) (wrap64 (Int.tdiv (wrap64 (3600 * x184001)) (mx x2 1)))) - (wrap64 ((wrap64 (x184002 + x1)) * (wrap64 ((wrap64 (20 + x2)) + (wrap64 (300 * x4)))))))) > 0 then (if (wrap64 ((wrap64 (x184002 + x1)) * 10000)) = 0 then (none) else (some (mn (wrap64 (x2 + (mx (wrap64 (Int.tdiv (wrap64 ((wrap64 ((mn (wrap64 (1000 * x184003)) (wrap64 (Int.tdiv (wrap64 (3600 * x184001)) (mx x2 1)))) - (wrap64 ((wrap64 (x184002 + x1)) * (wrap64 ((wrap64 (20 + x2)) + (wrap64 (300 * x4)))))))) * 36)) (wrap64 ((wrap64 (x184002 + x1)) * 10000)))) 1))) (mn x184000 x3), 0))) else (if (wrap64 ((mn (wrap64 (1000 * x184003)) (wrap64 (Int.tdiv (wrap64 (3600 * x184001)) (mx x2 1)))) - (wrap64 ((wrap64 (x184002 + x1)) * (wrap64 ((wrap64 (20 + x2)) + (wrap64 (300 * x4)))))))) < 0 then (if (wrap64 ((wrap64 (x184002 + x1)) * 10000)) = 0 then (none) else (some (mx (wrap64 (x2 - (wrap64 (Int.tdiv (wrap64 ((wrap64 (-(wrap64 ((mn (wrap64 (1000 * x184003)) (wrap64 (Int.tdiv (wrap64 (3600 * x184001)) (mx x2 1)))) - (wrap64 ((wrap64 (x184002 + x1)) * (wrap64 ((wrap64 (20 + x2)) + (wrap64 (300 * x4)))))))))) * 36)) (wrap64 ((wrap64 (x184002 + x1)) * 10000)))))) 0, 0))) else (some (x2, 0))))))
def fleet_Speed.f (k : Nat) (a0_0 : Int) (a0_1 : Int) (a0_2 : Int) (a0_3 : Int) (a0_4 : Int) (a0_5 : Int) (a0_6 : Int) (a0_7 : Bool) (a1 : Int) (a2 : Int) (a3 : Int) (a4 : Int) : Option (Int × Int) := (fleet_within.f k 0 1000000000 (([a0_0, a0_1, a0_2, a0_3, a0_4, a0_5, a0_6] : List Int))).bind fun t187 => (if t187 = true then (if a0_2 < 1 then (fleet_Speed.j0 k a1 a2 a3 a4 true a0_0 a0_1 a0_2 a0_3 a0_4 a0_5 a0_6 a0_7) else ((fleet_within.f k 0 1000000 (([a1] : List Int))).bind fun t191 => (if t191 = true then ((fleet_within.f k 0 600 (([a2, a3] : List Int))).bind fun t195 => (if t195 = true then ((fleet_within.f k (-1) 1 (([a4] : List Int))).bind fun t199 => (fleet_Speed.j0 k a1 a2 a3 a4 (!t199) a0_0 a0_1 a0_2 a0_3 a0_4 a0_5 a0_6 a0_7)) else (fleet_Speed.j0 k a1 a2 a3 a4 true a0_0 a0_1 a0_2 a0_3 a0_4 a0_5 a0_6 a0_7))) else (fleet_Speed.j0 k a1 a2 a3 a4 true a0_0 a0_1 a0_2 a0_3 a0_4 a0_5 a0_6 a0_7)))) else (fleet_Speed.j0 k a1 a2 a3 a4 true a0_0 a0_1 a0_2 a0_3 a0_4 a0_5 a0_6 a0_7))
theorem fleet_Speed.mono_l : ∀ k, (∀ y0 y1 y2 y3 y4 y5 y6 y7 y8 y9 y10 y11 y12, LeO (fleet_Speed.j0 k y0 y1 y2 y3 y4 y5 y6 y7 y8 y9 y10 y11 y12) (fleet_Speed.j0 (k + 1) y0 y1 y2 y3 y4 y5 y6 y7 y8 y9 y10 y11 y12))
  | 0 => fun _ _ _ _ _ _ _ _ _ _ _ _ _ r h => by simp [fleet_Speed.j0] at h
  | k + 1 => by
    have ih0 := fleet_Speed.mono_l k
    · intro y0 y1 y2 y3 y4 y5 y6 y7 y8 y9 y10 y11 y12
      unfold fleet_Speed.j0
      repeat' first
      | (with_reducible first | apply ih0 | apply fleet_within.mono | exact LeO.refl _ | exact LeO.none _ | refine LeO.ite ?_ ?_ | refine LeO.bind ?_ (fun _ => ?_))
theorem fleet_Speed.mono : ∀ a0 a1 a2 a3 a4 a5 a6 a7 a8 a9 a10 a11 k, LeO (fleet_Speed.f k a0 a1 a2 a3 a4 a5 a6 a7 a8 a9 a10 a11) (fleet_Speed.f (k + 1) a0 a1 a2 a3 a4 a5 a6 a7 a8 a9 a10 a11) := by
  intro a0 a1 a2 a3 a4 a5 a6 a7 a8 a9 a10 a11 k; have ih0 := fleet_Speed.mono_l k
  unfold fleet_Speed.f
  repeat' first
      | (with_reducible first | apply ih0 | apply fleet_within.mono | exact LeO.refl _ | exact LeO.none _ | refine LeO.ite ?_ ?_ | refine LeO.bind ?_ (fun _ => ?_))
set_option maxHeartbeats 8000000 in
set_option maxRecDepth 100000 in
theorem fleet_Speed.calls (k : Nat) (a0_0 : Int) (a0_1 : Int) (a0_2 : Int) (a0_3 : Int) (a0_4 : Int) (a0_5 : Int) (a0_6 : Int) (a0_7 : Bool) (a1 : Int) (a2 : Int) (a3 : Int) (a4 : Int) (r1 : Int) (r2 : Int) (w : World) (h : fleet_Speed.f k a0_0 a0_1 a0_2 a0_3 a0_4 a0_5 a0_6 a0_7 a1 a2 a3 a4 = some (r1, r2)) :
    Calls Try.prog 17 #[.agg #[.int .i64 a0_0, .int .i64 a0_1, .int .i64 a0_2, .int .i64 a0_3, .int .i64 a0_4, .int .i64 a0_5, .int .i64 a0_6, .bool a0_7], .int .i64 a1, .int .i64 a2, .int .i64 a3, .int .i64 a4] w fun e w' => e = .returned (.tuple #[.int .i64 r1, .int .i64 r2]) ∧ Below w.heap.size w w' := by
 have hu42 := Try.underlying42; have HB := Aside0.mk (Below.refl w.heap.size w); have H : ((fleet_within.f k 0 1000000000 (([a0_0, a0_1, a0_2, a0_3, a0_4, a0_5, a0_6] : List Int))).bind fun t187 => (if t187 = true then (if a0_2 < 1 then (fleet_Speed.j0 k a1 a2 a3 a4 true a0_0 a0_1 a0_2 a0_3 a0_4 a0_5 a0_6 a0_7) else ((fleet_within.f k 0 1000000 (([a1] : List Int))).bind fun t191 => (if t191 = true then ((fleet_within.f k 0 600 (([a2, a3] : List Int))).bind fun t195 => (if t195 = true then ((fleet_within.f k (-1) 1 (([a4] : List Int))).bind fun t199 => (fleet_Speed.j0 k a1 a2 a3 a4 (!t199) a0_0 a0_1 a0_2 a0_3 a0_4 a0_5 a0_6 a0_7)) else (fleet_Speed.j0 k a1 a2 a3 a4 true a0_0 a0_1 a0_2 a0_3 a0_4 a0_5 a0_6 a0_7))) else (fleet_Speed.j0 k a1 a2 a3 a4 true a0_0 a0_1 a0_2 a0_3 a0_4 a0_5 a0_6 a0_7)))) else (fleet_Speed.j0 k a1 a2 a3 a4 true a0_0 a0_1 a0_2 a0_3 a0_4 a0_5 a0_6 a0_7))) = some (r1, r2) := h; clear h; have HC6 := Aside0.mk H; clear H
 go_enter Try.func17, Try.ntmps17
 go_upto_region 1 with (first | ((with_reducible refine gate_dst (N := 5) rfl ?_); (try (refine gate_guard (by rfl) ?_; dsimp only)); refine bx_ (N := 5) (cs := #[.int .i64 a0_0, .int .i64 a0_1, .int .i64 a0_2, .int .i64 a0_3, .int .i64 a0_4, .int .i64 a0_5, .int .i64 a0_6, .bool a0_7]) (t := 42) ?_; intro gb183 hg w7 hbox hb; have BK183 := Aside0.mk (hbox); have GW183 := Aside0.mk ((dS_ hg (dL_ HB) : w.heap.size ≤ gb183)); have GE183 := GW183; replace HB := Aside0.mk (below_step (dL_ HB) hb); clear hb hbox hg))
 repeat (go_quiet (first | ((with_reducible refine gate_dst (N := 5) rfl ?_); (try (refine gate_guard (by rfl) ?_; dsimp only)); refine bx_ (N := 5) (cs := #[.int .i64 a0_0, .int .i64 a0_1, .int .i64 a0_2, .int .i64 a0_3, .int .i64 a0_4, .int .i64 a0_5, .int .i64 a0_6, .bool a0_7]) (t := 42) ?_; intro gb183 hg w7 hbox hb; have BK183 := Aside0.mk (hbox); have GW183 := Aside0.mk ((dS_ hg (dL_ HB) : w.heap.size ≤ gb183)); have GE183 := GW183; replace HB := Aside0.mk (below_step (dL_ HB) hb); clear hb hbox hg)); go_upto_region 1 with (first | ((with_reducible refine gate_dst (N := 5) rfl ?_); (try (refine gate_guard (by rfl) ?_; dsimp only)); refine bx_ (N := 5) (cs := #[.int .i64 a0_0, .int .i64 a0_1, .int .i64 a0_2, .int .i64 a0_3, .int .i64 a0_4, .int .i64 a0_5, .int .i64 a0_6, .bool a0_7]) (t := 42) ?_; intro gb183 hg w7 hbox hb; have BK183 := Aside0.mk (hbox); have GW183 := Aside0.mk ((dS_ hg (dL_ HB) : w.heap.size ≤ gb183)); have GE183 := GW183; replace HB := Aside0.mk (below_step (dL_ HB) hb); clear hb hbox hg)))
 (try simp only [Act.put, List.setIfInBounds_toArray, List.set_cons_zero, List.set_cons_succ])
 go_cut [57] (fun v57 wc => ∃ (kq : Nat) (x57_5 : Bool), v57 = .bool x57_5 ∧ Aside0 (fleet_Speed.j0 kq a1 a2 a3 a4 x57_5 a0_0 a0_1 a0_2 a0_3 a0_4 a0_5 a0_6 a0_7 = some (r1, r2)) ∧ Aside0 (kq ≤ k) ∧ Aside0 (wc.heap[gb183]? = some (.cells #[.int .i64 a0_0, .int .i64 a0_1, .int .i64 a0_2, .int .i64 a0_3, .int .i64 a0_4, .int .i64 a0_5, .int .i64 a0_6, .bool a0_7] 42 (0, 0))) ∧ Aside0 (Below w.heap.size w wc))
 case first =>
  have H := HC6.out; clear HC6; obtain ⟨y184, hy184⟩ : ∃ y_ : List Int, y_ = (([a0_0, a0_1, a0_2, a0_3, a0_4, a0_5, a0_6] : List Int)) := ⟨_, rfl⟩; replace H : ((fleet_within.f k 0 1000000000 y184).bind fun t187 => (if t187 = true then (if a0_2 < 1 then (fleet_Speed.j0 k a1 a2 a3 a4 true a0_0 a0_1 a0_2 a0_3 a0_4 a0_5 a0_6 a0_7) else ((fleet_within.f k 0 1000000 (([a1] : List Int))).bind fun t191 => (if t191 = true then ((fleet_within.f k 0 600 (([a2, a3] : List Int))).bind fun t195 => (if t195 = true then ((fleet_within.f k (-1) 1 (([a4] : List Int))).bind fun t199 => (fleet_Speed.j0 k a1 a2 a3 a4 (!t199) a0_0 a0_1 a0_2 a0_3 a0_4 a0_5 a0_6 a0_7)) else (fleet_Speed.j0 k a1 a2 a3 a4 true a0_0 a0_1 a0_2 a0_3 a0_4 a0_5 a0_6 a0_7))) else (fleet_Speed.j0 k a1 a2 a3 a4 true a0_0 a0_1 a0_2 a0_3 a0_4 a0_5 a0_6 a0_7)))) else (fleet_Speed.j0 k a1 a2 a3 a4 true a0_0 a0_1 a0_2 a0_3 a0_4 a0_5 a0_6 a0_7))) = some (r1, r2) := by first | (rw [hy184]; with_reducible exact H) | (have H2_ := (Option.bind_some _ _).symm.trans H; rw [hy184]; with_reducible exact H2_) | (have H2_ := (Option.bind_some _ _).symm.trans H; with_reducible exact H2_) | with_reducible exact H | (rw [hy184]; exact H) | exact H
  have Ny184 := Aside0.mk hy184; clear hy184; replace H := Option.bind_eq_some_iff.mp H; obtain ⟨t187, A80, H⟩ := H; have A8 := Aside0.mk A80; clear A80
  by_cases c9 : t187 = true
  ·subst c9; rw [if_pos rfl] at H
   by_cases c10 : a0_2 < 1
   ·rw [if_pos c10] at H; have c10b0 : decide (a0_2 < 1) = true := decide_eq_true c10; clear c10
    (first | rw [c10b0] | (simp only [i64_w, i32_w]; rw [c10b0]) | skip)
    have H' := Aside0.mk H; clear H; obtain ⟨hcz11_0, hcz11_1, hcz11_2, hcz11_3, hcz11_4, hcz11_5, hcz11_6, hcz11_7, hfz11_0, hfz11_1, hfz11_2, hfz11_3, hfz11_4, hfz11_5, hfz11_6, hfz11_7⟩ := cs8_ BK183.out
    go_wp2_with (first | ((with_reducible refine gate_dst (N := 31) rfl ?_); (try (refine gate_guard (by rfl) ?_; dsimp only)); refine Kd.R_lit (Kd.int .i64) _ 3 ?hg (N := 31) ?hd (xs := ([a0_0, a0_1, a0_2, a0_3, a0_4, a0_5, a0_6] : List Int)) (inner := [.int .i64 a0_0, .int .i64 a0_1, .int .i64 a0_2, .int .i64 a0_3, .int .i64 a0_4, .int .i64 a0_5, .int .i64 a0_6]) (ok := fun _ => True) (okp := fun _ => True) ?hr ?hp (fun _ hk => hk) trivial (Below.refl _ _) (Nat.le_refl _) (by simp) ?_; (case hd => rfl); (case hg => rfl); (case hr => first | (go_simp; done) | (go_simp; rfl)); (case hp => exact (Reps.one (show Kd.M (Kd.int .i64) _ _ _ a0_0 [.int .i64 a0_0] from rfl) (Reps.one (show Kd.M (Kd.int .i64) _ _ _ a0_1 [.int .i64 a0_1] from rfl) (Reps.one (show Kd.M (Kd.int .i64) _ _ _ a0_2 [.int .i64 a0_2] from rfl) (Reps.one (show Kd.M (Kd.int .i64) _ _ _ a0_3 [.int .i64 a0_3] from rfl) (Reps.one (show Kd.M (Kd.int .i64) _ _ _ a0_4 [.int .i64 a0_4] from rfl) (Reps.one (show Kd.M (Kd.int .i64) _ _ _ a0_5 [.int .i64 a0_5] from rfl) (Reps.one (show Kd.M (Kd.int .i64) _ _ _ a0_6 [.int .i64 a0_6] from rfl) (Reps.none _ _))))))))); intro v185 w12 ho13 hb hg_ hnew_; clear hg_ hnew_; (first | rw [← Ny184.out] at ho13 | (simp only [Int.reduceToNat] at ho13; rw [← Ny184.out] at ho13)); have HO186 := Aside0.mk (Kd.R_lower ho13 (below_size (dL1_ HB GE183))); replace BK183 := bk_ BK183 hb; replace HB := Aside0.mk (below_step (dL1_ HB GE183) hb); clear hb ho13; obtain ⟨Ao14, co14, eo14⟩ := Kd.R_slice HO186.out; subst eo14) | (go_at_call 18; (with_reducible refine (fleet_within.calls k 0 1000000000 _ _ y184 true _ ?side1 ?side2 A8.out).mono ?_); (case side1 => exact rC_ (Kd.R_reads' HO186.out).2.2); (case side2 => exact (Kd.R_reads' HO186.out).2.1); rintro e w' ⟨rfl, ⟨nd, rfl⟩⟩; (try first | exact ⟨rfl, _, World.drewN_drewN _ _ _⟩ | exact ⟨rfl, _, Eq.trans (World.drewN_drewN _ _ _) (congrArg (World.drewN _) (Nat.add_assoc _ _ _))⟩); obtain ⟨hcz15_0, hcz15_1, hcz15_2, hcz15_3, hcz15_4, hcz15_5, hcz15_6, hcz15_7, hfz15_0, hfz15_1, hfz15_2, hfz15_3, hfz15_4, hfz15_5, hfz15_6, hfz15_7⟩ := cs8_ BK183.out))
    go_meet
    case rel => exact ⟨_, (true), tS_, H', ⟨by first | omega | exact Nat.le_refl _⟩, ⟨dB_ BK183⟩, ⟨dL1_ HB GE183⟩⟩
   ·rw [if_neg c10] at H; have c10b0 : decide (a0_2 < 1) = false := decide_eq_false c10; clear c10
    (first | rw [c10b0] | (simp only [i64_w, i32_w]; rw [c10b0]) | skip)
    obtain ⟨y188, hy188⟩ : ∃ y_ : List Int, y_ = (([a1] : List Int)) := ⟨_, rfl⟩; replace H : ((fleet_within.f k 0 1000000 y188).bind fun t191 => (if t191 = true then ((fleet_within.f k 0 600 (([a2, a3] : List Int))).bind fun t195 => (if t195 = true then ((fleet_within.f k (-1) 1 (([a4] : List Int))).bind fun t199 => (fleet_Speed.j0 k a1 a2 a3 a4 (!t199) a0_0 a0_1 a0_2 a0_3 a0_4 a0_5 a0_6 a0_7)) else (fleet_Speed.j0 k a1 a2 a3 a4 true a0_0 a0_1 a0_2 a0_3 a0_4 a0_5 a0_6 a0_7))) else (fleet_Speed.j0 k a1 a2 a3 a4 true a0_0 a0_1 a0_2 a0_3 a0_4 a0_5 a0_6 a0_7))) = some (r1, r2) := by first | (rw [hy188]; with_reducible exact H) | (have H2_ := (Option.bind_some _ _).symm.trans H; rw [hy188]; with_reducible exact H2_) | (have H2_ := (Option.bind_some _ _).symm.trans H; with_reducible exact H2_) | with_reducible exact H | (rw [hy188]; exact H) | exact H
    have Ny188 := Aside0.mk hy188; clear hy188; replace H := Option.bind_eq_some_iff.mp H; obtain ⟨t191, A160, H⟩ := H; have A16 := Aside0.mk A160; clear A160
    by_cases c17 : t191 = true
    ·subst c17; rw [if_pos rfl] at H; obtain ⟨y192, hy192⟩ : ∃ y_ : List Int, y_ = (([a2, a3] : List Int)) := ⟨_, rfl⟩; replace H : ((fleet_within.f k 0 600 y192).bind fun t195 => (if t195 = true then ((fleet_within.f k (-1) 1 (([a4] : List Int))).bind fun t199 => (fleet_Speed.j0 k a1 a2 a3 a4 (!t199) a0_0 a0_1 a0_2 a0_3 a0_4 a0_5 a0_6 a0_7)) else (fleet_Speed.j0 k a1 a2 a3 a4 true a0_0 a0_1 a0_2 a0_3 a0_4 a0_5 a0_6 a0_7))) = some (r1, r2) := by first | (rw [hy192]; with_reducible exact H) | (have H2_ := (Option.bind_some _ _).symm.trans H; rw [hy192]; with_reducible exact H2_) | (have H2_ := (Option.bind_some _ _).symm.trans H; with_reducible exact H2_) | with_reducible exact H | (rw [hy192]; exact H) | exact H
     have Ny192 := Aside0.mk hy192; clear hy192; replace H := Option.bind_eq_some_iff.mp H; obtain ⟨t195, A180, H⟩ := H; have A18 := Aside0.mk A180; clear A180
     by_cases c19 : t195 = true
     ·subst c19; rw [if_pos rfl] at H; obtain ⟨y196, hy196⟩ : ∃ y_ : List Int, y_ = (([a4] : List Int)) := ⟨_, rfl⟩; replace H : ((fleet_within.f k (-1) 1 y196).bind fun t199 => (fleet_Speed.j0 k a1 a2 a3 a4 (!t199) a0_0 a0_1 a0_2 a0_3 a0_4 a0_5 a0_6 a0_7)) = some (r1, r2) := by first | (rw [hy196]; with_reducible exact H) | (have H2_ := (Option.bind_some _ _).symm.trans H; rw [hy196]; with_reducible exact H2_) | (have H2_ := (Option.bind_some _ _).symm.trans H; with_reducible exact H2_) | with_reducible exact H | (rw [hy196]; exact H) | exact H
      have Ny196 := Aside0.mk hy196; clear hy196; replace H := Option.bind_eq_some_iff.mp H; obtain ⟨t199, A200, H⟩ := H; have A20 := Aside0.mk A200; clear A200; have H' := Aside0.mk H; clear H; obtain ⟨hcz21_0, hcz21_1, hcz21_2, hcz21_3, hcz21_4, hcz21_5, hcz21_6, hcz21_7, hfz21_0, hfz21_1, hfz21_2, hfz21_3, hfz21_4, hfz21_5, hfz21_6, hfz21_7⟩ := cs8_ BK183.out
      go_wp2_with (first | ((with_reducible refine gate_dst (N := 31) rfl ?_); (try (refine gate_guard (by rfl) ?_; dsimp only)); refine Kd.R_lit (Kd.int .i64) _ 3 ?hg (N := 31) ?hd (xs := ([a0_0, a0_1, a0_2, a0_3, a0_4, a0_5, a0_6] : List Int)) (inner := [.int .i64 a0_0, .int .i64 a0_1, .int .i64 a0_2, .int .i64 a0_3, .int .i64 a0_4, .int .i64 a0_5, .int .i64 a0_6]) (ok := fun _ => True) (okp := fun _ => True) ?hr ?hp (fun _ hk => hk) trivial (Below.refl _ _) (Nat.le_refl _) (by simp) ?_; (case hd => rfl); (case hg => rfl); (case hr => first | (go_simp; done) | (go_simp; rfl)); (case hp => exact (Reps.one (show Kd.M (Kd.int .i64) _ _ _ a0_0 [.int .i64 a0_0] from rfl) (Reps.one (show Kd.M (Kd.int .i64) _ _ _ a0_1 [.int .i64 a0_1] from rfl) (Reps.one (show Kd.M (Kd.int .i64) _ _ _ a0_2 [.int .i64 a0_2] from rfl) (Reps.one (show Kd.M (Kd.int .i64) _ _ _ a0_3 [.int .i64 a0_3] from rfl) (Reps.one (show Kd.M (Kd.int .i64) _ _ _ a0_4 [.int .i64 a0_4] from rfl) (Reps.one (show Kd.M (Kd.int .i64) _ _ _ a0_5 [.int .i64 a0_5] from rfl) (Reps.one (show Kd.M (Kd.int .i64) _ _ _ a0_6 [.int .i64 a0_6] from rfl) (Reps.none _ _))))))))); intro v185 w22 ho23 hb hg_ hnew_; clear hg_ hnew_; (first | rw [← Ny184.out] at ho23 | (simp only [Int.reduceToNat] at ho23; rw [← Ny184.out] at ho23)); have HO186 := Aside0.mk (Kd.R_lower ho23 (below_size (dL1_ HB GE183))); replace BK183 := bk_ BK183 hb; replace HB := Aside0.mk (below_step (dL1_ HB GE183) hb); clear hb ho23; obtain ⟨Ao24, co24, eo24⟩ := Kd.R_slice HO186.out; subst eo24) | (go_at_call 18; (with_reducible refine (fleet_within.calls k 0 1000000000 _ _ y184 true _ ?side1 ?side2 A8.out).mono ?_); (case side1 => exact rC_ (Kd.R_reads' HO186.out).2.2); (case side2 => exact (Kd.R_reads' HO186.out).2.1); rintro e w' ⟨rfl, ⟨nd, rfl⟩⟩; (try first | exact ⟨rfl, _, World.drewN_drewN _ _ _⟩ | exact ⟨rfl, _, Eq.trans (World.drewN_drewN _ _ _) (congrArg (World.drewN _) (Nat.add_assoc _ _ _))⟩); obtain ⟨hcz25_0, hcz25_1, hcz25_2, hcz25_3, hcz25_4, hcz25_5, hcz25_6, hcz25_7, hfz25_0, hfz25_1, hfz25_2, hfz25_3, hfz25_4, hfz25_5, hfz25_6, hfz25_7⟩ := cs8_ BK183.out) | ((with_reducible refine gate_dst (N := 41) rfl ?_); (try (refine gate_guard (by rfl) ?_; dsimp only)); refine li1_ (N := 41) 3 a1 ?_; intro v189 w26 ho27 hb; (first | rw [← Ny188.out] at ho27 | (simp only [Int.reduceToNat] at ho27; rw [← Ny188.out] at ho27)); have HO190 := Aside0.mk (Kd.R_lower (Kd.R_new' ho27 (Kd.R_lt (dR_ HO186))) (below_size (dL1_ HB GE183))); replace HO186 := Aside0.mk (Kd.R_elder' (dR_ HO186) (Kd.R_base ho27) hb); replace BK183 := bk_ BK183 hb; replace HB := Aside0.mk (below_step (dL1_ HB GE183) hb); clear hb ho27; obtain ⟨Ao28, co28, eo28⟩ := Kd.R_slice HO190.out; subst eo28) | (go_at_call 18; (with_reducible refine (fleet_within.calls k 0 1000000 _ _ y188 true _ ?side1 ?side2 A16.out).mono ?_); (case side1 => exact rC_ (Kd.R_reads' HO190.out).2.2); (case side2 => exact (Kd.R_reads' HO190.out).2.1); rintro e w' ⟨rfl, ⟨nd, rfl⟩⟩; (try first | exact ⟨rfl, _, World.drewN_drewN _ _ _⟩ | exact ⟨rfl, _, Eq.trans (World.drewN_drewN _ _ _) (congrArg (World.drewN _) (Nat.add_assoc _ _ _))⟩)) | ((with_reducible refine gate_dst (N := 48) rfl ?_); (try (refine gate_guard (by rfl) ?_; dsimp only)); refine Kd.R_lit (Kd.int .i64) _ 3 ?hg (N := 48) ?hd (xs := ([a2, a3] : List Int)) (inner := [.int .i64 a2, .int .i64 a3]) (ok := fun _ => True) (okp := fun _ => True) ?hr ?hp (fun _ hk => hk) trivial (Below.refl _ _) (Nat.le_refl _) (by simp) ?_; (case hd => rfl); (case hg => rfl); (case hr => first | (go_simp; done) | (go_simp; rfl)); (case hp => exact (Reps.one (show Kd.M (Kd.int .i64) _ _ _ a2 [.int .i64 a2] from rfl) (Reps.one (show Kd.M (Kd.int .i64) _ _ _ a3 [.int .i64 a3] from rfl) (Reps.none _ _)))); intro v193 w29 ho30 hb hg_ hnew_; clear hg_ hnew_; (first | rw [← Ny192.out] at ho30 | (simp only [Int.reduceToNat] at ho30; rw [← Ny192.out] at ho30)); have HO194 := Aside0.mk (Kd.R_lower (Kd.R_new' (Kd.R_new' ho30 (Kd.R_lt (dR_ HO186))) (Kd.R_lt (dR_ HO190))) (below_size (dL1_ HB GE183))); replace HO186 := Aside0.mk (Kd.R_elder' (dR_ HO186) (Kd.R_base ho30) hb); replace HO190 := Aside0.mk (Kd.R_elder' (dR_ HO190) (Kd.R_base ho30) hb); replace BK183 := bk_ BK183 hb; replace HB := Aside0.mk (below_step (dL1_ HB GE183) hb); clear hb ho30; obtain ⟨Ao31, co31, eo31⟩ := Kd.R_slice HO194.out; subst eo31) | (go_at_call 18; (with_reducible refine (fleet_within.calls k 0 600 _ _ y192 true _ ?side1 ?side2 A18.out).mono ?_); (case side1 => exact rC_ (Kd.R_reads' HO194.out).2.2); (case side2 => exact (Kd.R_reads' HO194.out).2.1); rintro e w' ⟨rfl, ⟨nd, rfl⟩⟩; (try first | exact ⟨rfl, _, World.drewN_drewN _ _ _⟩ | exact ⟨rfl, _, Eq.trans (World.drewN_drewN _ _ _) (congrArg (World.drewN _) (Nat.add_assoc _ _ _))⟩)) | ((with_reducible refine gate_dst (N := 54) rfl ?_); (try (refine gate_guard (by rfl) ?_; dsimp only)); refine li1_ (N := 54) 3 a4 ?_; intro v197 w32 ho33 hb; (first | rw [← Ny196.out] at ho33 | (simp only [Int.reduceToNat] at ho33; rw [← Ny196.out] at ho33)); have HO198 := Aside0.mk (Kd.R_lower (Kd.R_new' (Kd.R_new' (Kd.R_new' ho33 (Kd.R_lt (dR_ HO186))) (Kd.R_lt (dR_ HO190))) (Kd.R_lt (dR_ HO194))) (below_size (dL1_ HB GE183))); replace HO186 := Aside0.mk (Kd.R_elder' (dR_ HO186) (Kd.R_base ho33) hb); replace HO190 := Aside0.mk (Kd.R_elder' (dR_ HO190) (Kd.R_base ho33) hb); replace HO194 := Aside0.mk (Kd.R_elder' (dR_ HO194) (Kd.R_base ho33) hb); replace BK183 := bk_ BK183 hb; replace HB := Aside0.mk (below_step (dL1_ HB GE183) hb); clear hb ho33; obtain ⟨Ao34, co34, eo34⟩ := Kd.R_slice HO198.out; subst eo34) | (go_at_call 18; (with_reducible refine (fleet_within.calls k (-1) 1 _ _ y196 t199 _ ?side1 ?side2 A20.out).mono ?_); (case side1 => exact rC_ (Kd.R_reads' HO198.out).2.2); (case side2 => exact (Kd.R_reads' HO198.out).2.1); rintro e w' ⟨rfl, ⟨nd, rfl⟩⟩; (try first | exact ⟨rfl, _, World.drewN_drewN _ _ _⟩ | exact ⟨rfl, _, Eq.trans (World.drewN_drewN _ _ _) (congrArg (World.drewN _) (Nat.add_assoc _ _ _))⟩)))
      go_meet
      case rel => exact ⟨_, (!t199), tS_, H', ⟨by first | omega | exact Nat.le_refl _⟩, ⟨dB_ BK183⟩, ⟨dL1_ HB GE183⟩⟩
     ·replace c19 := Bool.eq_false_iff.mpr c19; subst c19; rw [if_neg (show ¬ (false = true) by decide)] at H; have H' := Aside0.mk H; clear H; obtain ⟨hcz35_0, hcz35_1, hcz35_2, hcz35_3, hcz35_4, hcz35_5, hcz35_6, hcz35_7, hfz35_0, hfz35_1, hfz35_2, hfz35_3, hfz35_4, hfz35_5, hfz35_6, hfz35_7⟩ := cs8_ BK183.out
      go_wp2_with (first | ((with_reducible refine gate_dst (N := 31) rfl ?_); (try (refine gate_guard (by rfl) ?_; dsimp only)); refine Kd.R_lit (Kd.int .i64) _ 3 ?hg (N := 31) ?hd (xs := ([a0_0, a0_1, a0_2, a0_3, a0_4, a0_5, a0_6] : List Int)) (inner := [.int .i64 a0_0, .int .i64 a0_1, .int .i64 a0_2, .int .i64 a0_3, .int .i64 a0_4, .int .i64 a0_5, .int .i64 a0_6]) (ok := fun _ => True) (okp := fun _ => True) ?hr ?hp (fun _ hk => hk) trivial (Below.refl _ _) (Nat.le_refl _) (by simp) ?_; (case hd => rfl); (case hg => rfl); (case hr => first | (go_simp; done) | (go_simp; rfl)); (case hp => exact (Reps.one (show Kd.M (Kd.int .i64) _ _ _ a0_0 [.int .i64 a0_0] from rfl) (Reps.one (show Kd.M (Kd.int .i64) _ _ _ a0_1 [.int .i64 a0_1] from rfl) (Reps.one (show Kd.M (Kd.int .i64) _ _ _ a0_2 [.int .i64 a0_2] from rfl) (Reps.one (show Kd.M (Kd.int .i64) _ _ _ a0_3 [.int .i64 a0_3] from rfl) (Reps.one (show Kd.M (Kd.int .i64) _ _ _ a0_4 [.int .i64 a0_4] from rfl) (Reps.one (show Kd.M (Kd.int .i64) _ _ _ a0_5 [.int .i64 a0_5] from rfl) (Reps.one (show Kd.M (Kd.int .i64) _ _ _ a0_6 [.int .i64 a0_6] from rfl) (Reps.none _ _))))))))); intro v185 w36 ho37 hb hg_ hnew_; clear hg_ hnew_; (first | rw [← Ny184.out] at ho37 | (simp only [Int.reduceToNat] at ho37; rw [← Ny184.out] at ho37)); have HO186 := Aside0.mk (Kd.R_lower ho37 (below_size (dL1_ HB GE183))); replace BK183 := bk_ BK183 hb; replace HB := Aside0.mk (below_step (dL1_ HB GE183) hb); clear hb ho37; obtain ⟨Ao38, co38, eo38⟩ := Kd.R_slice HO186.out; subst eo38) | (go_at_call 18; (with_reducible refine (fleet_within.calls k 0 1000000000 _ _ y184 true _ ?side1 ?side2 A8.out).mono ?_); (case side1 => exact rC_ (Kd.R_reads' HO186.out).2.2); (case side2 => exact (Kd.R_reads' HO186.out).2.1); rintro e w' ⟨rfl, ⟨nd, rfl⟩⟩; (try first | exact ⟨rfl, _, World.drewN_drewN _ _ _⟩ | exact ⟨rfl, _, Eq.trans (World.drewN_drewN _ _ _) (congrArg (World.drewN _) (Nat.add_assoc _ _ _))⟩); obtain ⟨hcz39_0, hcz39_1, hcz39_2, hcz39_3, hcz39_4, hcz39_5, hcz39_6, hcz39_7, hfz39_0, hfz39_1, hfz39_2, hfz39_3, hfz39_4, hfz39_5, hfz39_6, hfz39_7⟩ := cs8_ BK183.out) | ((with_reducible refine gate_dst (N := 41) rfl ?_); (try (refine gate_guard (by rfl) ?_; dsimp only)); refine li1_ (N := 41) 3 a1 ?_; intro v189 w40 ho41 hb; (first | rw [← Ny188.out] at ho41 | (simp only [Int.reduceToNat] at ho41; rw [← Ny188.out] at ho41)); have HO190 := Aside0.mk (Kd.R_lower (Kd.R_new' ho41 (Kd.R_lt (dR_ HO186))) (below_size (dL1_ HB GE183))); replace HO186 := Aside0.mk (Kd.R_elder' (dR_ HO186) (Kd.R_base ho41) hb); replace BK183 := bk_ BK183 hb; replace HB := Aside0.mk (below_step (dL1_ HB GE183) hb); clear hb ho41; obtain ⟨Ao42, co42, eo42⟩ := Kd.R_slice HO190.out; subst eo42) | (go_at_call 18; (with_reducible refine (fleet_within.calls k 0 1000000 _ _ y188 true _ ?side1 ?side2 A16.out).mono ?_); (case side1 => exact rC_ (Kd.R_reads' HO190.out).2.2); (case side2 => exact (Kd.R_reads' HO190.out).2.1); rintro e w' ⟨rfl, ⟨nd, rfl⟩⟩; (try first | exact ⟨rfl, _, World.drewN_drewN _ _ _⟩ | exact ⟨rfl, _, Eq.trans (World.drewN_drewN _ _ _) (congrArg (World.drewN _) (Nat.add_assoc _ _ _))⟩)) | ((with_reducible refine gate_dst (N := 48) rfl ?_); (try (refine gate_guard (by rfl) ?_; dsimp only)); refine Kd.R_lit (Kd.int .i64) _ 3 ?hg (N := 48) ?hd (xs := ([a2, a3] : List Int)) (inner := [.int .i64 a2, .int .i64 a3]) (ok := fun _ => True) (okp := fun _ => True) ?hr ?hp (fun _ hk => hk) trivial (Below.refl _ _) (Nat.le_refl _) (by simp) ?_; (case hd => rfl); (case hg => rfl); (case hr => first | (go_simp; done) | (go_simp; rfl)); (case hp => exact (Reps.one (show Kd.M (Kd.int .i64) _ _ _ a2 [.int .i64 a2] from rfl) (Reps.one (show Kd.M (Kd.int .i64) _ _ _ a3 [.int .i64 a3] from rfl) (Reps.none _ _)))); intro v193 w43 ho44 hb hg_ hnew_; clear hg_ hnew_; (first | rw [← Ny192.out] at ho44 | (simp only [Int.reduceToNat] at ho44; rw [← Ny192.out] at ho44)); have HO194 := Aside0.mk (Kd.R_lower (Kd.R_new' (Kd.R_new' ho44 (Kd.R_lt (dR_ HO186))) (Kd.R_lt (dR_ HO190))) (below_size (dL1_ HB GE183))); replace HO186 := Aside0.mk (Kd.R_elder' (dR_ HO186) (Kd.R_base ho44) hb); replace HO190 := Aside0.mk (Kd.R_elder' (dR_ HO190) (Kd.R_base ho44) hb); replace BK183 := bk_ BK183 hb; replace HB := Aside0.mk (below_step (dL1_ HB GE183) hb); clear hb ho44; obtain ⟨Ao45, co45, eo45⟩ := Kd.R_slice HO194.out; subst eo45) | (go_at_call 18; (with_reducible refine (fleet_within.calls k 0 600 _ _ y192 false _ ?side1 ?side2 A18.out).mono ?_); (case side1 => exact rC_ (Kd.R_reads' HO194.out).2.2); (case side2 => exact (Kd.R_reads' HO194.out).2.1); rintro e w' ⟨rfl, ⟨nd, rfl⟩⟩; (try first | exact ⟨rfl, _, World.drewN_drewN _ _ _⟩ | exact ⟨rfl, _, Eq.trans (World.drewN_drewN _ _ _) (congrArg (World.drewN _) (Nat.add_assoc _ _ _))⟩)))
      go_meet
      case rel => exact ⟨_, (true), tS_, H', ⟨by first | omega | exact Nat.le_refl _⟩, ⟨dB_ BK183⟩, ⟨dL1_ HB GE183⟩⟩
    ·replace c17 := Bool.eq_false_iff.mpr c17; subst c17; rw [if_neg (show ¬ (false = true) by decide)] at H; have H' := Aside0.mk H; clear H; obtain ⟨hcz46_0, hcz46_1, hcz46_2, hcz46_3, hcz46_4, hcz46_5, hcz46_6, hcz46_7, hfz46_0, hfz46_1, hfz46_2, hfz46_3, hfz46_4, hfz46_5, hfz46_6, hfz46_7⟩ := cs8_ BK183.out
     go_wp2_with (first | ((with_reducible refine gate_dst (N := 31) rfl ?_); (try (refine gate_guard (by rfl) ?_; dsimp only)); refine Kd.R_lit (Kd.int .i64) _ 3 ?hg (N := 31) ?hd (xs := ([a0_0, a0_1, a0_2, a0_3, a0_4, a0_5, a0_6] : List Int)) (inner := [.int .i64 a0_0, .int .i64 a0_1, .int .i64 a0_2, .int .i64 a0_3, .int .i64 a0_4, .int .i64 a0_5, .int .i64 a0_6]) (ok := fun _ => True) (okp := fun _ => True) ?hr ?hp (fun _ hk => hk) trivial (Below.refl _ _) (Nat.le_refl _) (by simp) ?_; (case hd => rfl); (case hg => rfl); (case hr => first | (go_simp; done) | (go_simp; rfl)); (case hp => exact (Reps.one (show Kd.M (Kd.int .i64) _ _ _ a0_0 [.int .i64 a0_0] from rfl) (Reps.one (show Kd.M (Kd.int .i64) _ _ _ a0_1 [.int .i64 a0_1] from rfl) (Reps.one (show Kd.M (Kd.int .i64) _ _ _ a0_2 [.int .i64 a0_2] from rfl) (Reps.one (show Kd.M (Kd.int .i64) _ _ _ a0_3 [.int .i64 a0_3] from rfl) (Reps.one (show Kd.M (Kd.int .i64) _ _ _ a0_4 [.int .i64 a0_4] from rfl) (Reps.one (show Kd.M (Kd.int .i64) _ _ _ a0_5 [.int .i64 a0_5] from rfl) (Reps.one (show Kd.M (Kd.int .i64) _ _ _ a0_6 [.int .i64 a0_6] from rfl) (Reps.none _ _))))))))); intro v185 w47 ho48 hb hg_ hnew_; clear hg_ hnew_; (first | rw [← Ny184.out] at ho48 | (simp only [Int.reduceToNat] at ho48; rw [← Ny184.out] at ho48)); have HO186 := Aside0.mk (Kd.R_lower ho48 (below_size (dL1_ HB GE183))); replace BK183 := bk_ BK183 hb; replace HB := Aside0.mk (below_step (dL1_ HB GE183) hb); clear hb ho48; obtain ⟨Ao49, co49, eo49⟩ := Kd.R_slice HO186.out; subst eo49) | (go_at_call 18; (with_reducible refine (fleet_within.calls k 0 1000000000 _ _ y184 true _ ?side1 ?side2 A8.out).mono ?_); (case side1 => exact rC_ (Kd.R_reads' HO186.out).2.2); (case side2 => exact (Kd.R_reads' HO186.out).2.1); rintro e w' ⟨rfl, ⟨nd, rfl⟩⟩; (try first | exact ⟨rfl, _, World.drewN_drewN _ _ _⟩ | exact ⟨rfl, _, Eq.trans (World.drewN_drewN _ _ _) (congrArg (World.drewN _) (Nat.add_assoc _ _ _))⟩); obtain ⟨hcz50_0, hcz50_1, hcz50_2, hcz50_3, hcz50_4, hcz50_5, hcz50_6, hcz50_7, hfz50_0, hfz50_1, hfz50_2, hfz50_3, hfz50_4, hfz50_5, hfz50_6, hfz50_7⟩ := cs8_ BK183.out) | ((with_reducible refine gate_dst (N := 41) rfl ?_); (try (refine gate_guard (by rfl) ?_; dsimp only)); refine li1_ (N := 41) 3 a1 ?_; intro v189 w51 ho52 hb; (first | rw [← Ny188.out] at ho52 | (simp only [Int.reduceToNat] at ho52; rw [← Ny188.out] at ho52)); have HO190 := Aside0.mk (Kd.R_lower (Kd.R_new' ho52 (Kd.R_lt (dR_ HO186))) (below_size (dL1_ HB GE183))); replace HO186 := Aside0.mk (Kd.R_elder' (dR_ HO186) (Kd.R_base ho52) hb); replace BK183 := bk_ BK183 hb; replace HB := Aside0.mk (below_step (dL1_ HB GE183) hb); clear hb ho52; obtain ⟨Ao53, co53, eo53⟩ := Kd.R_slice HO190.out; subst eo53) | (go_at_call 18; (with_reducible refine (fleet_within.calls k 0 1000000 _ _ y188 false _ ?side1 ?side2 A16.out).mono ?_); (case side1 => exact rC_ (Kd.R_reads' HO190.out).2.2); (case side2 => exact (Kd.R_reads' HO190.out).2.1); rintro e w' ⟨rfl, ⟨nd, rfl⟩⟩; (try first | exact ⟨rfl, _, World.drewN_drewN _ _ _⟩ | exact ⟨rfl, _, Eq.trans (World.drewN_drewN _ _ _) (congrArg (World.drewN _) (Nat.add_assoc _ _ _))⟩)))
     go_meet
     case rel => exact ⟨_, (true), tS_, H', ⟨by first | omega | exact Nat.le_refl _⟩, ⟨dB_ BK183⟩, ⟨dL1_ HB GE183⟩⟩
  ·replace c9 := Bool.eq_false_iff.mpr c9; subst c9; rw [if_neg (show ¬ (false = true) by decide)] at H; have H' := Aside0.mk H; clear H; obtain ⟨hcz54_0, hcz54_1, hcz54_2, hcz54_3, hcz54_4, hcz54_5, hcz54_6, hcz54_7, hfz54_0, hfz54_1, hfz54_2, hfz54_3, hfz54_4, hfz54_5, hfz54_6, hfz54_7⟩ := cs8_ BK183.out
   go_wp2_with (first | ((with_reducible refine gate_dst (N := 31) rfl ?_); (try (refine gate_guard (by rfl) ?_; dsimp only)); refine Kd.R_lit (Kd.int .i64) _ 3 ?hg (N := 31) ?hd (xs := ([a0_0, a0_1, a0_2, a0_3, a0_4, a0_5, a0_6] : List Int)) (inner := [.int .i64 a0_0, .int .i64 a0_1, .int .i64 a0_2, .int .i64 a0_3, .int .i64 a0_4, .int .i64 a0_5, .int .i64 a0_6]) (ok := fun _ => True) (okp := fun _ => True) ?hr ?hp (fun _ hk => hk) trivial (Below.refl _ _) (Nat.le_refl _) (by simp) ?_; (case hd => rfl); (case hg => rfl); (case hr => first | (go_simp; done) | (go_simp; rfl)); (case hp => exact (Reps.one (show Kd.M (Kd.int .i64) _ _ _ a0_0 [.int .i64 a0_0] from rfl) (Reps.one (show Kd.M (Kd.int .i64) _ _ _ a0_1 [.int .i64 a0_1] from rfl) (Reps.one (show Kd.M (Kd.int .i64) _ _ _ a0_2 [.int .i64 a0_2] from rfl) (Reps.one (show Kd.M (Kd.int .i64) _ _ _ a0_3 [.int .i64 a0_3] from rfl) (Reps.one (show Kd.M (Kd.int .i64) _ _ _ a0_4 [.int .i64 a0_4] from rfl) (Reps.one (show Kd.M (Kd.int .i64) _ _ _ a0_5 [.int .i64 a0_5] from rfl) (Reps.one (show Kd.M (Kd.int .i64) _ _ _ a0_6 [.int .i64 a0_6] from rfl) (Reps.none _ _))))))))); intro v185 w55 ho56 hb hg_ hnew_; clear hg_ hnew_; (first | rw [← Ny184.out] at ho56 | (simp only [Int.reduceToNat] at ho56; rw [← Ny184.out] at ho56)); have HO186 := Aside0.mk (Kd.R_lower ho56 (below_size (dL1_ HB GE183))); replace BK183 := bk_ BK183 hb; replace HB := Aside0.mk (below_step (dL1_ HB GE183) hb); clear hb ho56; obtain ⟨Ao57, co57, eo57⟩ := Kd.R_slice HO186.out; subst eo57) | (go_at_call 18; (with_reducible refine (fleet_within.calls k 0 1000000000 _ _ y184 false _ ?side1 ?side2 A8.out).mono ?_); (case side1 => exact rC_ (Kd.R_reads' HO186.out).2.2); (case side2 => exact (Kd.R_reads' HO186.out).2.1); rintro e w' ⟨rfl, ⟨nd, rfl⟩⟩; (try first | exact ⟨rfl, _, World.drewN_drewN _ _ _⟩ | exact ⟨rfl, _, Eq.trans (World.drewN_drewN _ _ _) (congrArg (World.drewN _) (Nat.add_assoc _ _ _))⟩)))
   go_meet
   case rel => exact ⟨_, (true), tS_, H', ⟨by first | omega | exact Nat.le_refl _⟩, ⟨dB_ BK183⟩, ⟨dL1_ HB GE183⟩⟩
 case rest =>
  clear HC6; (try clear c10); obtain ⟨kq, x57_5, rfl, HA, HJ5, BK183, HB⟩ := hcut
  cases kq with
  | zero => exact absurd HA.out (by simp [fleet_Speed.j0])
  | succ kj5 =>
   have H := HA.out; clear HA; simp only [fleet_Speed.j0] at H
   by_cases c58 : x57_5 = true
   ·subst c58; rw [if_pos rfl] at H; simp only [Option.some.injEq, Prod.mk.injEq] at H; obtain ⟨rfl, rfl⟩ := H; go_wp2
    repeat (go_quiet (fail); try go_wp2)
    go_ret2
    exact ⟨tE_, dL1_ HB GE183⟩
   ·replace c58 := Bool.eq_false_iff.mpr c58; subst c58; rw [if_neg (show ¬ (false = true) by decide)] at H; obtain ⟨ji59, hji59⟩ : ∃ j_ : Int, (mx a2 1) = j_ := ⟨_, rfl⟩; replace H : (if (ji59) = 0 then (none) else (if a2 > (mn a0_0 a3) then (some (mx (mn a0_0 a3) (wrap64 (a2 - 10)), 0)) else (if (wrap64 ((mn (wrap64 (1000 * a0_3)) (wrap64 (Int.tdiv (wrap64 (3600 * a0_1)) (ji59)))) - (wrap64 ((wrap64 (a0_2 + a1)) * (wrap64 ((wrap64 (20 + a2)) + (wrap64 (300 * a4)))))))) > 0 then (if (wrap64 ((wrap64 (a0_2 + a1)) * 10000)) = 0 then (none) else (some (mn (wrap64 (a2 + (mx (wrap64 (Int.tdiv (wrap64 ((wrap64 ((mn (wrap64 (1000 * a0_3)) (wrap64 (Int.tdiv (wrap64 (3600 * a0_1)) (ji59)))) - (wrap64 ((wrap64 (a0_2 + a1)) * (wrap64 ((wrap64 (20 + a2)) + (wrap64 (300 * a4)))))))) * 36)) (wrap64 ((wrap64 (a0_2 + a1)) * 10000)))) 1))) (mn a0_0 a3), 0))) else (if (wrap64 ((mn (wrap64 (1000 * a0_3)) (wrap64 (Int.tdiv (wrap64 (3600 * a0_1)) (ji59)))) - (wrap64 ((wrap64 (a0_2 + a1)) * (wrap64 ((wrap64 (20 + a2)) + (wrap64 (300 * a4)))))))) < 0 then (if (wrap64 ((wrap64 (a0_2 + a1)) * 10000)) = 0 then (none) else (some (mx (wrap64 (a2 - (wrap64 (Int.tdiv (wrap64 ((wrap64 (-(wrap64 ((mn (wrap64 (1000 * a0_3)) (wrap64 (Int.tdiv (wrap64 (3600 * a0_1)) (ji59)))) - (wrap64 ((wrap64 (a0_2 + a1)) * (wrap64 ((wrap64 (20 + a2)) + (wrap64 (300 * a4)))))))))) * 36)) (wrap64 ((wrap64 (a0_2 + a1)) * 10000)))))) 0, 0))) else (some (a2, 0)))))) = some (r1, r2) := by first | (rw [hji59] at H; exact H) | (simp only [hji59] at H ⊢; exact H)
    have hji59_ : (if a2 < 1 then 1 else a2) = ji59 := hji59
    by_cases c60 : (ji59) = 0
    ·rw [if_pos c60] at H; exact absurd H (by simp)
    ·rw [if_neg c60] at H; have c60b0 : ((ji59) == 0) = false := beq_eq_false_iff_ne.mpr c60; have c60b1 : ((ji59) != 0) = true := bne_iff_ne.mpr c60; obtain ⟨ji61, hji61⟩ : ∃ j_ : Int, (mn (wrap64 (1000 * a0_3)) (wrap64 (Int.tdiv (wrap64 (3600 * a0_1)) (ji59)))) = j_ := ⟨_, rfl⟩; replace H : (if a2 > (mn a0_0 a3) then (some (mx (mn a0_0 a3) (wrap64 (a2 - 10)), 0)) else (if (wrap64 ((ji61) - (wrap64 ((wrap64 (a0_2 + a1)) * (wrap64 ((wrap64 (20 + a2)) + (wrap64 (300 * a4)))))))) > 0 then (if (wrap64 ((wrap64 (a0_2 + a1)) * 10000)) = 0 then (none) else (some (mn (wrap64 (a2 + (mx (wrap64 (Int.tdiv (wrap64 ((wrap64 ((ji61) - (wrap64 ((wrap64 (a0_2 + a1)) * (wrap64 ((wrap64 (20 + a2)) + (wrap64 (300 * a4)))))))) * 36)) (wrap64 ((wrap64 (a0_2 + a1)) * 10000)))) 1))) (mn a0_0 a3), 0))) else (if (wrap64 ((ji61) - (wrap64 ((wrap64 (a0_2 + a1)) * (wrap64 ((wrap64 (20 + a2)) + (wrap64 (300 * a4)))))))) < 0 then (if (wrap64 ((wrap64 (a0_2 + a1)) * 10000)) = 0 then (none) else (some (mx (wrap64 (a2 - (wrap64 (Int.tdiv (wrap64 ((wrap64 (-(wrap64 ((ji61) - (wrap64 ((wrap64 (a0_2 + a1)) * (wrap64 ((wrap64 (20 + a2)) + (wrap64 (300 * a4)))))))))) * 36)) (wrap64 ((wrap64 (a0_2 + a1)) * 10000)))))) 0, 0))) else (some (a2, 0))))) = some (r1, r2) := by first | (rw [hji61] at H; exact H) | (simp only [hji61] at H ⊢; exact H)
     have hji61_ : (if (wrap64 (Int.tdiv (wrap64 (3600 * a0_1)) (ji59))) < (wrap64 (1000 * a0_3)) then (wrap64 (Int.tdiv (wrap64 (3600 * a0_1)) (ji59))) else (wrap64 (1000 * a0_3))) = ji61 := hji61; obtain ⟨ji62, hji62⟩ : ∃ j_ : Int, (mn a0_0 a3) = j_ := ⟨_, rfl⟩; replace H : (if a2 > (ji62) then (some (mx (ji62) (wrap64 (a2 - 10)), 0)) else (if (wrap64 ((ji61) - (wrap64 ((wrap64 (a0_2 + a1)) * (wrap64 ((wrap64 (20 + a2)) + (wrap64 (300 * a4)))))))) > 0 then (if (wrap64 ((wrap64 (a0_2 + a1)) * 10000)) = 0 then (none) else (some (mn (wrap64 (a2 + (mx (wrap64 (Int.tdiv (wrap64 ((wrap64 ((ji61) - (wrap64 ((wrap64 (a0_2 + a1)) * (wrap64 ((wrap64 (20 + a2)) + (wrap64 (300 * a4)))))))) * 36)) (wrap64 ((wrap64 (a0_2 + a1)) * 10000)))) 1))) (ji62), 0))) else (if (wrap64 ((ji61) - (wrap64 ((wrap64 (a0_2 + a1)) * (wrap64 ((wrap64 (20 + a2)) + (wrap64 (300 * a4)))))))) < 0 then (if (wrap64 ((wrap64 (a0_2 + a1)) * 10000)) = 0 then (none) else (some (mx (wrap64 (a2 - (wrap64 (Int.tdiv (wrap64 ((wrap64 (-(wrap64 ((ji61) - (wrap64 ((wrap64 (a0_2 + a1)) * (wrap64 ((wrap64 (20 + a2)) + (wrap64 (300 * a4)))))))))) * 36)) (wrap64 ((wrap64 (a0_2 + a1)) * 10000)))))) 0, 0))) else (some (a2, 0))))) = some (r1, r2) := by first | (rw [hji62] at H; exact H) | (simp only [hji62] at H ⊢; exact H)
     have hji62_ : (if a3 < a0_0 then a3 else a0_0) = ji62 := hji62
     by_cases c63 : a2 > (ji62)
     ·rw [if_pos c63] at H; have c63b0 : decide ((ji62) < a2) = true := decide_eq_true c63; clear c63; obtain ⟨ji64, hji64⟩ : ∃ j_ : Int, (mx (ji62) (wrap64 (a2 - 10))) = j_ := ⟨_, rfl⟩; replace H : (some (ji64, 0)) = some (r1, r2) := by first | (rw [hji64] at H; exact H) | (simp only [hji64] at H ⊢; exact H)
      have hji64_ : (if (ji62) < (wrap64 (a2 - 10)) then (wrap64 (a2 - 10)) else (ji62)) = ji64 := hji64; simp only [Option.some.injEq, Prod.mk.injEq] at H; obtain ⟨rfl, rfl⟩ := H; obtain ⟨hcz65_0, hcz65_1, hcz65_2, hcz65_3, hcz65_4, hcz65_5, hcz65_6, hcz65_7, hfz65_0, hfz65_1, hfz65_2, hfz65_3, hfz65_4, hfz65_5, hfz65_6, hfz65_7⟩ := cs8_ BK183.out; go_wp2
      repeat (go_quiet (fail); try go_wp2)
      go_ret2
      exact ⟨by first | rfl | (simp [errW_none, errW_some] <;> rfl) | (simp only [← hji59, ← hji61, ← hji62, ← hji64]; first | rfl | (simp [errW_none, errW_some] <;> rfl)) | (simp [*, errW_none, errW_some] <;> rfl), dL1_ HB GE183⟩
     ·rw [if_neg c63] at H; have c63b0 : decide ((ji62) < a2) = false := decide_eq_false c63; clear c63
      by_cases c66 : (wrap64 ((ji61) - (wrap64 ((wrap64 (a0_2 + a1)) * (wrap64 ((wrap64 (20 + a2)) + (wrap64 (300 * a4)))))))) > 0
      ·rw [if_pos c66] at H; have c66b0 : decide (0 < (wrap64 ((ji61) - (wrap64 ((wrap64 (a0_2 + a1)) * (wrap64 ((wrap64 (20 + a2)) + (wrap64 (300 * a4))))))))) = true := decide_eq_true c66; clear c66
       by_cases c67 : (wrap64 ((wrap64 (a0_2 + a1)) * 10000)) = 0
       ·rw [if_pos c67] at H; exact absurd H (by simp)
       ·rw [if_neg c67] at H; have c67b0 : ((wrap64 ((wrap64 (a0_2 + a1)) * 10000)) == 0) = false := beq_eq_false_iff_ne.mpr c67; have c67b1 : ((wrap64 ((wrap64 (a0_2 + a1)) * 10000)) != 0) = true := bne_iff_ne.mpr c67; obtain ⟨ji68, hji68⟩ : ∃ j_ : Int, (mx (wrap64 (Int.tdiv (wrap64 ((wrap64 ((ji61) - (wrap64 ((wrap64 (a0_2 + a1)) * (wrap64 ((wrap64 (20 + a2)) + (wrap64 (300 * a4)))))))) * 36)) (wrap64 ((wrap64 (a0_2 + a1)) * 10000)))) 1) = j_ := ⟨_, rfl⟩; replace H : (some (mn (wrap64 (a2 + (ji68))) (ji62), 0)) = some (r1, r2) := by first | (rw [hji68] at H; exact H) | (simp only [hji68] at H ⊢; exact H)
        have hji68_ : (if (wrap64 (Int.tdiv (wrap64 ((wrap64 ((ji61) - (wrap64 ((wrap64 (a0_2 + a1)) * (wrap64 ((wrap64 (20 + a2)) + (wrap64 (300 * a4)))))))) * 36)) (wrap64 ((wrap64 (a0_2 + a1)) * 10000)))) < 1 then 1 else (wrap64 (Int.tdiv (wrap64 ((wrap64 ((ji61) - (wrap64 ((wrap64 (a0_2 + a1)) * (wrap64 ((wrap64 (20 + a2)) + (wrap64 (300 * a4)))))))) * 36)) (wrap64 ((wrap64 (a0_2 + a1)) * 10000))))) = ji68 := hji68; obtain ⟨ji69, hji69⟩ : ∃ j_ : Int, (mn (wrap64 (a2 + (ji68))) (ji62)) = j_ := ⟨_, rfl⟩; replace H : (some (ji69, 0)) = some (r1, r2) := by first | (rw [hji69] at H; exact H) | (simp only [hji69] at H ⊢; exact H)
        have hji69_ : (if (ji62) < (wrap64 (a2 + (ji68))) then (ji62) else (wrap64 (a2 + (ji68)))) = ji69 := hji69; simp only [Option.some.injEq, Prod.mk.injEq] at H; obtain ⟨rfl, rfl⟩ := H; obtain ⟨hcz70_0, hcz70_1, hcz70_2, hcz70_3, hcz70_4, hcz70_5, hcz70_6, hcz70_7, hfz70_0, hfz70_1, hfz70_2, hfz70_3, hfz70_4, hfz70_5, hfz70_6, hfz70_7⟩ := cs8_ BK183.out; go_wp2
        repeat (go_quiet (fail); try go_wp2)
        go_ret2
        exact ⟨by first | rfl | (simp [errW_none, errW_some] <;> rfl) | (simp only [← hji59, ← hji61, ← hji62, ← hji68, ← hji69]; first | rfl | (simp [errW_none, errW_some] <;> rfl)) | (simp [*, errW_none, errW_some] <;> rfl), dL1_ HB GE183⟩
      ·rw [if_neg c66] at H; have c66b0 : decide (0 < (wrap64 ((ji61) - (wrap64 ((wrap64 (a0_2 + a1)) * (wrap64 ((wrap64 (20 + a2)) + (wrap64 (300 * a4))))))))) = false := decide_eq_false c66; clear c66
       by_cases c71 : (wrap64 ((ji61) - (wrap64 ((wrap64 (a0_2 + a1)) * (wrap64 ((wrap64 (20 + a2)) + (wrap64 (300 * a4)))))))) < 0
       ·rw [if_pos c71] at H; have c71b0 : decide ((wrap64 ((ji61) - (wrap64 ((wrap64 (a0_2 + a1)) * (wrap64 ((wrap64 (20 + a2)) + (wrap64 (300 * a4)))))))) < 0) = true := decide_eq_true c71; clear c71
        by_cases c72 : (wrap64 ((wrap64 (a0_2 + a1)) * 10000)) = 0
        ·rw [if_pos c72] at H; exact absurd H (by simp)
        ·rw [if_neg c72] at H; have c72b0 : ((wrap64 ((wrap64 (a0_2 + a1)) * 10000)) == 0) = false := beq_eq_false_iff_ne.mpr c72; have c72b1 : ((wrap64 ((wrap64 (a0_2 + a1)) * 10000)) != 0) = true := bne_iff_ne.mpr c72; obtain ⟨ji73, hji73⟩ : ∃ j_ : Int, (mx (wrap64 (a2 - (wrap64 (Int.tdiv (wrap64 ((wrap64 (-(wrap64 ((ji61) - (wrap64 ((wrap64 (a0_2 + a1)) * (wrap64 ((wrap64 (20 + a2)) + (wrap64 (300 * a4)))))))))) * 36)) (wrap64 ((wrap64 (a0_2 + a1)) * 10000)))))) 0) = j_ := ⟨_, rfl⟩; replace H : (some (ji73, 0)) = some (r1, r2) := by first | (rw [hji73] at H; exact H) | (simp only [hji73] at H ⊢; exact H)
         have hji73_ : (if (wrap64 (a2 - (wrap64 (Int.tdiv (wrap64 ((wrap64 (-(wrap64 ((ji61) - (wrap64 ((wrap64 (a0_2 + a1)) * (wrap64 ((wrap64 (20 + a2)) + (wrap64 (300 * a4)))))))))) * 36)) (wrap64 ((wrap64 (a0_2 + a1)) * 10000)))))) < 0 then 0 else (wrap64 (a2 - (wrap64 (Int.tdiv (wrap64 ((wrap64 (-(wrap64 ((ji61) - (wrap64 ((wrap64 (a0_2 + a1)) * (wrap64 ((wrap64 (20 + a2)) + (wrap64 (300 * a4)))))))))) * 36)) (wrap64 ((wrap64 (a0_2 + a1)) * 10000))))))) = ji73 := hji73; simp only [Option.some.injEq, Prod.mk.injEq] at H; obtain ⟨rfl, rfl⟩ := H; obtain ⟨hcz74_0, hcz74_1, hcz74_2, hcz74_3, hcz74_4, hcz74_5, hcz74_6, hcz74_7, hfz74_0, hfz74_1, hfz74_2, hfz74_3, hfz74_4, hfz74_5, hfz74_6, hfz74_7⟩ := cs8_ BK183.out; go_wp2
         repeat (go_quiet (fail); try go_wp2)
         go_ret2
         exact ⟨by first | rfl | (simp [errW_none, errW_some] <;> rfl) | (simp only [← hji59, ← hji61, ← hji62, ← hji73]; first | rfl | (simp [errW_none, errW_some] <;> rfl)) | (simp [*, errW_none, errW_some] <;> rfl), dL1_ HB GE183⟩
       ·rw [if_neg c71] at H; have c71b0 : decide ((wrap64 ((ji61) - (wrap64 ((wrap64 (a0_2 + a1)) * (wrap64 ((wrap64 (20 + a2)) + (wrap64 (300 * a4)))))))) < 0) = false := decide_eq_false c71; clear c71; simp only [Option.some.injEq, Prod.mk.injEq] at H; obtain ⟨rfl, rfl⟩ := H; obtain ⟨hcz75_0, hcz75_1, hcz75_2, hcz75_3, hcz75_4, hcz75_5, hcz75_6, hcz75_7, hfz75_0, hfz75_1, hfz75_2, hfz75_3, hfz75_4, hfz75_5, hfz75_6, hfz75_7⟩ := cs8_ BK183.out; go_wp2
        repeat (go_quiet (fail); try go_wp2)
        go_ret2
        exact ⟨by first | rfl | (simp [errW_none, errW_some] <;> rfl) | (simp only [← hji59, ← hji61, ← hji62]; first | rfl | (simp [errW_none, errW_some] <;> rfl)) | (simp [*, errW_none, errW_some] <;> rfl), dL1_ HB GE183⟩

end Go.Proofs.Ytgnahbjpockdmab.Q
namespace Go.Proofs.Ytgnahbjpockdmab.Q
open Go.RowKit Go.Proofs.YtgnahbjpockdmabPrs Go.Proofs.YtgnahbjpockdmabOwn Go.Proofs.YtgnahbjpockdmabW.PrintWords Go.Proofs.YtgnahbjpockdmabW.PrintLast Go.Proofs.YtgnahbjpockdmabW.PrintMore
attribute [local go_sem] max2_int min2_int max_two min_two max_three min_three max_four min_four   -- for this text's walks alone
set_option linter.unusedVariables false
set_option linter.unusedSimpArgs false

/-! ### hinterlandlaw14_known: function 7 -/
def hinterlandlaw14_known.f (k : Nat)  : Option (Bool) := (fleet_Speed.f k 600 2000 80 200 0 0 0 false 0 0 600 0).bind fun bt200 => ((fleet_Facts.f k (([(⟨(⟨#[97]⟩ : ByteArray), 0, 0, 5, 3, 0, 0, 0, 8, 0, 0, 1, 0, false⟩ : S52)] : List (S52))) (([0] : List Int))).bind fun bt208 => (if bt200.2 = 0 then (if bt200.1 = 8 then (if bt208.2.2.2.2.2.2.2.2 = 0 then (if bt208.1 = 600 then (if bt208.2.2.1 = 3 then (some (bt208.2.2.2.2.1 == 8)) else (none)) else (none)) else (none)) else (none)) else (none)))
theorem hinterlandlaw14_known.mono : ∀ k, LeO (hinterlandlaw14_known.f k ) (hinterlandlaw14_known.f (k + 1) ) := by
  intro  k
  unfold hinterlandlaw14_known.f
  repeat' first
      | (with_reducible first | apply fleet_Facts.mono | apply fleet_Speed.mono | exact LeO.refl _ | exact LeO.none _ | refine LeO.ite ?_ ?_ | refine LeO.bind ?_ (fun _ => ?_))
set_option maxHeartbeats 8000000 in
set_option maxRecDepth 100000 in
theorem hinterlandlaw14_known.calls (k : Nat)  (r : Bool) (w : World) (h : hinterlandlaw14_known.f k  = some r) :
    Calls Try.prog 7 #[] w fun e w' => e = .returned (.bool r) ∧ Below w.heap.size w w' := by
 have hu42 := Try.underlying42; have hu52 := Try.underlying52; have HB := Aside0.mk (Below.refl w.heap.size w); have H : ((fleet_Speed.f k 600 2000 80 200 0 0 0 false 0 0 600 0).bind fun bt200 => ((fleet_Facts.f k (([(⟨(⟨#[97]⟩ : ByteArray), 0, 0, 5, 3, 0, 0, 0, 8, 0, 0, 1, 0, false⟩ : S52)] : List (S52))) (([0] : List Int))).bind fun bt208 => (if bt200.2 = 0 then (if bt200.1 = 8 then (if bt208.2.2.2.2.2.2.2.2 = 0 then (if bt208.1 = 600 then (if bt208.2.2.1 = 3 then (some (bt208.2.2.2.2.1 == 8)) else (none)) else (none)) else (none)) else (none)) else (none)))) = some r := h; clear h; replace H := Option.bind_eq_some_iff.mp H; obtain ⟨⟨t200, t201⟩, A10, H⟩ := H; have A1 := Aside0.mk A10; clear A10; obtain ⟨y202, hy202⟩ : ∃ y_ : List (S52), y_ = (([(⟨(⟨#[97]⟩ : ByteArray), 0, 0, 5, 3, 0, 0, 0, 8, 0, 0, 1, 0, false⟩ : S52)] : List (S52))) := ⟨_, rfl⟩; replace H : ((fleet_Facts.f k y202 (([0] : List Int))).bind fun bt208 => (if t201 = 0 then (if t200 = 8 then (if bt208.2.2.2.2.2.2.2.2 = 0 then (if bt208.1 = 600 then (if bt208.2.2.1 = 3 then (some (bt208.2.2.2.2.1 == 8)) else (none)) else (none)) else (none)) else (none)) else (none))) = some r := by first | (rw [hy202]; with_reducible exact H) | (have H2_ := (Option.bind_some _ _).symm.trans H; rw [hy202]; with_reducible exact H2_) | (have H2_ := (Option.bind_some _ _).symm.trans H; with_reducible exact H2_) | with_reducible exact H | (rw [hy202]; exact H) | exact H
 have Ny202 := Aside0.mk hy202; clear hy202; obtain ⟨y205, hy205⟩ : ∃ y_ : List Int, y_ = (([0] : List Int)) := ⟨_, rfl⟩; replace H : ((fleet_Facts.f k y202 y205).bind fun bt208 => (if t201 = 0 then (if t200 = 8 then (if bt208.2.2.2.2.2.2.2.2 = 0 then (if bt208.1 = 600 then (if bt208.2.2.1 = 3 then (some (bt208.2.2.2.2.1 == 8)) else (none)) else (none)) else (none)) else (none)) else (none))) = some r := by first | (rw [hy205]; with_reducible exact H) | (have H2_ := (Option.bind_some _ _).symm.trans H; rw [hy205]; with_reducible exact H2_) | (have H2_ := (Option.bind_some _ _).symm.trans H; with_reducible exact H2_) | with_reducible exact H | (rw [hy205]; exact H) | exact H
 have Ny205 := Aside0.mk hy205; clear hy205; replace H := Option.bind_eq_some_iff.mp H; obtain ⟨⟨t208, t209, t210, t211, t212, t213, t214, t215, t216⟩, A20, H⟩ := H; have A2 := Aside0.mk A20; clear A20
 by_cases c3 : t201 = 0
 ·rw [if_pos c3] at H; have c3b0 : (t201 == 0) = true := beq_iff_eq.mpr c3; have c3b1 : (t201 != 0) = false := bne_eq_false_iff_eq.mpr c3; clear c3
  by_cases c4 : t200 = 8
  ·rw [if_pos c4] at H; have c4b0 : (t200 == 8) = true := beq_iff_eq.mpr c4; have c4b1 : (t200 != 8) = false := bne_eq_false_iff_eq.mpr c4; clear c4
   by_cases c5 : t216 = 0
   ·rw [if_pos c5] at H; have c5b0 : (t216 == 0) = true := beq_iff_eq.mpr c5; have c5b1 : (t216 != 0) = false := bne_eq_false_iff_eq.mpr c5; clear c5
    by_cases c6 : t208 = 600
    ·rw [if_pos c6] at H; have c6b0 : (t208 == 600) = true := beq_iff_eq.mpr c6; have c6b1 : (t208 != 600) = false := bne_eq_false_iff_eq.mpr c6; clear c6
     by_cases c7 : t210 = 3
     ·rw [if_pos c7] at H; have c7b0 : (t210 == 3) = true := beq_iff_eq.mpr c7; have c7b1 : (t210 != 3) = false := bne_eq_false_iff_eq.mpr c7; clear c7; obtain rfl := Option.some.inj H
      go_enter Try.func7, Try.ntmps7
      go_wp2_with (first | ((with_reducible refine gate_callee (f := 17) rfl ?_); refine gL_ (some 7) Try.func17 #[.agg #[.int .i64 600, .int .i64 2000, .int .i64 80, .int .i64 200, .int .i64 0, .int .i64 0, .int .i64 0, .bool false], .int .i64 0, .int .i64 0, .int .i64 600, .int .i64 0] ?_ rfl; (with_reducible refine (fleet_Speed.calls k 600 2000 80 200 0 0 0 false 0 0 600 0 t200 t201 _ A1.out).mono ?_); rintro e w8 ⟨rfl, hb⟩; refine ⟨_, rfl, ?_⟩; replace HB := Aside0.mk (below_step (dL_ HB) hb)) | ((with_reducible refine gate_dst (N := 12) rfl ?_); refine Kd.R_lit k52 _ 52 ?hg (N := 12) ?hd (xs := ([(⟨(⟨#[97]⟩ : ByteArray), 0, 0, 5, 3, 0, 0, 0, 8, 0, 0, 1, 0, false⟩ : S52)] : List (S52))) (inner := [.string (⟨#[97]⟩ : ByteArray), .int .i64 0, .int .i64 0, .int .i64 5, .int .i64 3, .int .i64 0, .int .i64 0, .int .i64 0, .int .i64 8, .int .i64 0, .int .i64 0, .int .i64 1, .int .i64 0, .bool false]) (ok := fun _ => True) (okp := fun _ => True) ?hr ?hp (fun _ hk => hk) trivial (Below.refl _ _) (Nat.le_refl _) (by simp) ?_; (case hd => rfl); (case hg => rfl); (case hr => first | (go_simp; done) | (go_simp; rfl)); (case hp => exact (Reps.front (show Kd.M k52 _ _ _ (⟨(⟨#[97]⟩ : ByteArray), 0, 0, 5, 3, 0, 0, 0, 8, 0, 0, 1, 0, false⟩ : S52) [.string (⟨#[97]⟩ : ByteArray), .int .i64 0, .int .i64 0, .int .i64 5, .int .i64 3, .int .i64 0, .int .i64 0, .int .i64 0, .int .i64 8, .int .i64 0, .int .i64 0, .int .i64 1, .int .i64 0, .bool false] from (k52_mkM _ _ _ (⟨(⟨#[97]⟩ : ByteArray), 0, 0, 5, 3, 0, 0, 0, 8, 0, 0, 1, 0, false⟩ : S52) )) rfl (Reps.none _ _) rfl)); intro v203 w9 ho10 hb hg_ hnew_; clear hg_ hnew_; (first | rw [← Ny202.out] at ho10 | (simp only [Int.reduceToNat] at ho10; rw [← Ny202.out] at ho10)); have HO204 := Aside0.mk (Kd.R_lower ho10 (below_size (dL_ HB))); replace HB := Aside0.mk (below_step (dL_ HB) hb); clear hb ho10) | ((with_reducible refine gate_dst (N := 13) rfl ?_); refine li1_ (N := 13) 3 0 ?_; intro v206 w11 ho12 hb; (first | rw [← Ny205.out] at ho12 | (simp only [Int.reduceToNat] at ho12; rw [← Ny205.out] at ho12)); replace HO204 := Aside0.mk (Kd.R_below (dR_ HO204) hb); have HO207 := Aside0.mk (Kd.R_lower ho12 (below_size (dL_ HB))); replace HB := Aside0.mk (below_step (dL_ HB) hb); clear hb ho12; obtain ⟨Ao13, co13, eo13⟩ := Kd.R_slice HO204.out; subst eo13; obtain ⟨Ao14, co14, eo14⟩ := Kd.R_slice HO207.out; subst eo14) | ((with_reducible refine gate_callee (f := 14) rfl ?_); refine gL_ (some 14) Try.func14 #[.slice Ao13 y202.length co13, .slice Ao14 y205.length co14] ?_ rfl; (with_reducible refine (fleet_Facts.calls k _ _ y202 _ _ y205 t208 t209 t210 t211 t212 t213 t214 t215 t216 _ ?side1 ?side2 ?side3 ?side4 A2.out).mono ?_); (case side1 => exact rC_ (Kd.R_reads' HO204.out).2.2); (case side2 => exact (Kd.R_reads' HO204.out).2.1); (case side3 => exact rC_ (Kd.R_reads' HO207.out).2.2); (case side4 => exact (Kd.R_reads' HO207.out).2.1); rintro e w15 ⟨rfl, hb⟩; refine ⟨_, rfl, ?_⟩; replace HO204 := Aside0.mk (Kd.R_below (dR_ HO204) hb); replace HO207 := Aside0.mk (Kd.R_below (dR_ HO207) hb); replace HB := Aside0.mk (below_step (dL_ HB) hb)) | ((with_reducible refine gate_dst (N := 3) rfl ?_); refine bx_ (N := 3) (cs := #[.int .i64 0, .int .i64 0, .int .i64 0, .int .i64 0, .int .i64 0, .int .i64 0, .int .i64 0, .bool false]) (t := 42) ?_; intro gb217 hg w16 hbox hb; replace HO204 := Aside0.mk (Kd.R_below (dR_ HO204) hb); replace HO207 := Aside0.mk (Kd.R_below (dR_ HO207) hb); have BK217 := Aside0.mk (hbox); have GW217 := Aside0.mk ((dS_ hg (dL_ HB) : w.heap.size ≤ gb217)); have GE217 := GW217; replace HB := Aside0.mk (below_step (dL_ HB) hb); clear hb hbox hg; obtain ⟨hcz17_0, hcz17_1, hcz17_2, hcz17_3, hcz17_4, hcz17_5, hcz17_6, hcz17_7, hfz17_0, hfz17_1, hfz17_2, hfz17_3, hfz17_4, hfz17_5, hfz17_6, hfz17_7⟩ := cs8_ BK217.out))
      go_ret
      exact ⟨tE_, dL1_ HB GE217⟩
     ·rw [if_neg c7] at H; have c7b0 : (t210 == 3) = false := beq_eq_false_iff_ne.mpr c7; have c7b1 : (t210 != 3) = true := bne_iff_ne.mpr c7; exact absurd H (by simp)
    ·rw [if_neg c6] at H; have c6b0 : (t208 == 600) = false := beq_eq_false_iff_ne.mpr c6; have c6b1 : (t208 != 600) = true := bne_iff_ne.mpr c6; exact absurd H (by simp)
   ·rw [if_neg c5] at H; have c5b0 : (t216 == 0) = false := beq_eq_false_iff_ne.mpr c5; have c5b1 : (t216 != 0) = true := bne_iff_ne.mpr c5; exact absurd H (by simp)
  ·rw [if_neg c4] at H; have c4b0 : (t200 == 8) = false := beq_eq_false_iff_ne.mpr c4; have c4b1 : (t200 != 8) = true := bne_iff_ne.mpr c4; exact absurd H (by simp)
 ·rw [if_neg c3] at H; have c3b0 : (t201 == 0) = false := beq_eq_false_iff_ne.mpr c3; have c3b1 : (t201 != 0) = true := bne_iff_ne.mpr c3; exact absurd H (by simp)

end Go.Proofs.Ytgnahbjpockdmab.Q
namespace Go.Proofs.Ytgnahbjpockdmab.Q
open Go.RowKit Go.Proofs.YtgnahbjpockdmabPrs Go.Proofs.YtgnahbjpockdmabOwn Go.Proofs.YtgnahbjpockdmabW.PrintWords Go.Proofs.YtgnahbjpockdmabW.PrintLast Go.Proofs.YtgnahbjpockdmabW.PrintMore
attribute [local go_sem] max2_int min2_int max_two min_two max_three min_three max_four min_four   -- for this text's walks alone
set_option linter.unusedVariables false
set_option linter.unusedSimpArgs false

/-! ### cargo_within: function 48 -/
def cargo_within.f (a0 : Int) (a1 : Int) : Option (Bool) := if a0 ≥ 0 then (some (decide (a0 ≤ a1))) else (some false)
set_option maxHeartbeats 8000000 in
set_option maxRecDepth 100000 in
theorem cargo_within.calls (a0 : Int) (a1 : Int) (r : Bool) (w : World) (h : cargo_within.f a0 a1 = some r) :
    Calls Try.prog 48 #[.int .i64 a0, .int .i64 a1] w fun e w' => e = .returned (.bool r) ∧ Drawn0 w w' := by
 have H : (if a0 ≥ 0 then (some (decide (a0 ≤ a1))) else (some false)) = some r := h; clear h
 by_cases c3 : a0 ≥ 0
 ·rw [if_pos c3] at H; have c3b0 : decide (0 ≤ a0) = true := decide_eq_true c3; clear c3; obtain rfl := Option.some.inj H
  go_enter Try.func48, Try.ntmps48
  go_wp2
  go_ret
  exact ⟨tS_, by repeat (first | exact Drawn0.refl _ | apply Drawn0.step)⟩
 ·rw [if_neg c3] at H; have c3b0 : decide (0 ≤ a0) = false := decide_eq_false c3; clear c3; obtain rfl := Option.some.inj H
  go_enter Try.func48, Try.ntmps48
  go_wp2
  go_ret
  exact ⟨tS_, by repeat (first | exact Drawn0.refl _ | apply Drawn0.step)⟩

end Go.Proofs.Ytgnahbjpockdmab.Q
namespace Go.Proofs.Ytgnahbjpockdmab.Q
open Go.RowKit Go.Proofs.YtgnahbjpockdmabPrs Go.Proofs.YtgnahbjpockdmabOwn Go.Proofs.YtgnahbjpockdmabW.PrintWords Go.Proofs.YtgnahbjpockdmabW.PrintLast Go.Proofs.YtgnahbjpockdmabW.PrintMore
attribute [local go_sem] max2_int min2_int max_two min_two max_three min_three max_four min_four   -- for this text's walks alone
set_option linter.unusedVariables false
set_option linter.unusedSimpArgs false

/-! ### cargo_sound: function 38 -/
def cargo_sound.f (a0_0 : Int) (a0_1 : Int) (a0_2 : Int) (a0_3 : Int) (a0_4 : Int) (a0_5 : Int) : Option (Bool) := if a0_4 ≥ 1 then (if a0_4 ≤ 1000000 then ((cargo_within.f a0_3 255).bind fun t219 => (if t219 = true then ((cargo_within.f a0_5 1000000000000).bind fun t220 => (if t220 = true then ((cargo_within.f a0_0 1000000).bind fun t221 => (if t221 = true then ((cargo_within.f a0_1 1000000).bind fun t222 => (if t222 = true then ((cargo_within.f a0_2 1000000).bind fun t223 => (some t223)) else (some false))) else (some false))) else (some false))) else (some false))) else (some false)) else (some false)
set_option maxHeartbeats 8000000 in
set_option maxRecDepth 100000 in
theorem cargo_sound.calls (a0_0 : Int) (a0_1 : Int) (a0_2 : Int) (a0_3 : Int) (a0_4 : Int) (a0_5 : Int) (r : Bool) (w : World) (h : cargo_sound.f a0_0 a0_1 a0_2 a0_3 a0_4 a0_5 = some r) :
    Calls Try.prog 38 #[.agg #[.int .i64 a0_0, .int .i64 a0_1, .int .i64 a0_2, .int .i64 a0_3, .int .i64 a0_4, .int .i64 a0_5]] w fun e w' => e = .returned (.bool r) ∧ Below w.heap.size w w' := by
 have hu49 := Try.underlying49; have HB := Aside0.mk (Below.refl w.heap.size w); have H : (if a0_4 ≥ 1 then (if a0_4 ≤ 1000000 then ((cargo_within.f a0_3 255).bind fun t219 => (if t219 = true then ((cargo_within.f a0_5 1000000000000).bind fun t220 => (if t220 = true then ((cargo_within.f a0_0 1000000).bind fun t221 => (if t221 = true then ((cargo_within.f a0_1 1000000).bind fun t222 => (if t222 = true then ((cargo_within.f a0_2 1000000).bind fun t223 => (some t223)) else (some false))) else (some false))) else (some false))) else (some false))) else (some false)) else (some false)) = some r := h; clear h
 by_cases c2 : a0_4 ≥ 1
 ·rw [if_pos c2] at H; have c2b0 : decide (1 ≤ a0_4) = true := decide_eq_true c2; clear c2
  by_cases c3 : a0_4 ≤ 1000000
  ·rw [if_pos c3] at H; have c3b0 : decide (a0_4 ≤ 1000000) = true := decide_eq_true c3; clear c3; replace H := Option.bind_eq_some_iff.mp H; obtain ⟨t219, A40, H⟩ := H; have A4 := Aside0.mk A40; clear A40
   by_cases c5 : t219 = true
   ·subst c5; rw [if_pos rfl] at H; replace H := Option.bind_eq_some_iff.mp H; obtain ⟨t220, A60, H⟩ := H; have A6 := Aside0.mk A60; clear A60
    by_cases c7 : t220 = true
    ·subst c7; rw [if_pos rfl] at H; replace H := Option.bind_eq_some_iff.mp H; obtain ⟨t221, A80, H⟩ := H; have A8 := Aside0.mk A80; clear A80
     by_cases c9 : t221 = true
     ·subst c9; rw [if_pos rfl] at H; replace H := Option.bind_eq_some_iff.mp H; obtain ⟨t222, A100, H⟩ := H; have A10 := Aside0.mk A100; clear A100
      by_cases c11 : t222 = true
      ·subst c11; rw [if_pos rfl] at H; replace H := Option.bind_eq_some_iff.mp H; obtain ⟨t223, A120, H⟩ := H; have A12 := Aside0.mk A120; clear A120; obtain rfl := Option.some.inj H
       go_enter Try.func38, Try.ntmps38
       go_wp2_with (first | ((with_reducible refine gate_dst (N := 1) rfl ?_); refine bx_ (N := 1) (cs := #[.int .i64 a0_0, .int .i64 a0_1, .int .i64 a0_2, .int .i64 a0_3, .int .i64 a0_4, .int .i64 a0_5]) (t := 49) ?_; intro gb218 hg w13 hbox hb; have BK218 := Aside0.mk (hbox); have GW218 := Aside0.mk ((dS_ hg (dL_ HB) : w.heap.size ≤ gb218)); have GE218 := GW218; replace HB := Aside0.mk (below_step (dL_ HB) hb); clear hb hbox hg; obtain ⟨hcz14_0, hcz14_1, hcz14_2, hcz14_3, hcz14_4, hcz14_5, hfz14_0, hfz14_1, hfz14_2, hfz14_3, hfz14_4, hfz14_5⟩ := cs6_ BK218.out) | (go_at_call 48; (with_reducible refine (cargo_within.calls a0_3 255 true _ A4.out).mono ?_); rintro e w' ⟨rfl, ⟨nd, rfl⟩⟩) | (go_at_call 48; (with_reducible refine (cargo_within.calls a0_5 1000000000000 true _ A6.out).mono ?_); rintro e w' ⟨rfl, ⟨nd, rfl⟩⟩) | (go_at_call 48; (with_reducible refine (cargo_within.calls a0_0 1000000 true _ A8.out).mono ?_); rintro e w' ⟨rfl, ⟨nd, rfl⟩⟩) | (go_at_call 48; (with_reducible refine (cargo_within.calls a0_1 1000000 true _ A10.out).mono ?_); rintro e w' ⟨rfl, ⟨nd, rfl⟩⟩) | (go_at_call 48; (with_reducible refine (cargo_within.calls a0_2 1000000 t223 _ A12.out).mono ?_); rintro e w' ⟨rfl, ⟨nd, rfl⟩⟩))
       go_ret
       exact ⟨tE_, dL1_ HB GE218⟩
      ·replace c11 := Bool.eq_false_iff.mpr c11; subst c11; rw [if_neg (show ¬ (false = true) by decide)] at H; obtain rfl := Option.some.inj H
       go_enter Try.func38, Try.ntmps38
       go_wp2_with (first | ((with_reducible refine gate_dst (N := 1) rfl ?_); refine bx_ (N := 1) (cs := #[.int .i64 a0_0, .int .i64 a0_1, .int .i64 a0_2, .int .i64 a0_3, .int .i64 a0_4, .int .i64 a0_5]) (t := 49) ?_; intro gb218 hg w15 hbox hb; have BK218 := Aside0.mk (hbox); have GW218 := Aside0.mk ((dS_ hg (dL_ HB) : w.heap.size ≤ gb218)); have GE218 := GW218; replace HB := Aside0.mk (below_step (dL_ HB) hb); clear hb hbox hg; obtain ⟨hcz16_0, hcz16_1, hcz16_2, hcz16_3, hcz16_4, hcz16_5, hfz16_0, hfz16_1, hfz16_2, hfz16_3, hfz16_4, hfz16_5⟩ := cs6_ BK218.out) | (go_at_call 48; (with_reducible refine (cargo_within.calls a0_3 255 true _ A4.out).mono ?_); rintro e w' ⟨rfl, ⟨nd, rfl⟩⟩) | (go_at_call 48; (with_reducible refine (cargo_within.calls a0_5 1000000000000 true _ A6.out).mono ?_); rintro e w' ⟨rfl, ⟨nd, rfl⟩⟩) | (go_at_call 48; (with_reducible refine (cargo_within.calls a0_0 1000000 true _ A8.out).mono ?_); rintro e w' ⟨rfl, ⟨nd, rfl⟩⟩) | (go_at_call 48; (with_reducible refine (cargo_within.calls a0_1 1000000 false _ A10.out).mono ?_); rintro e w' ⟨rfl, ⟨nd, rfl⟩⟩))
       go_ret
       exact ⟨tE_, dL1_ HB GE218⟩
     ·replace c9 := Bool.eq_false_iff.mpr c9; subst c9; rw [if_neg (show ¬ (false = true) by decide)] at H; obtain rfl := Option.some.inj H
      go_enter Try.func38, Try.ntmps38
      go_wp2_with (first | ((with_reducible refine gate_dst (N := 1) rfl ?_); refine bx_ (N := 1) (cs := #[.int .i64 a0_0, .int .i64 a0_1, .int .i64 a0_2, .int .i64 a0_3, .int .i64 a0_4, .int .i64 a0_5]) (t := 49) ?_; intro gb218 hg w17 hbox hb; have BK218 := Aside0.mk (hbox); have GW218 := Aside0.mk ((dS_ hg (dL_ HB) : w.heap.size ≤ gb218)); have GE218 := GW218; replace HB := Aside0.mk (below_step (dL_ HB) hb); clear hb hbox hg; obtain ⟨hcz18_0, hcz18_1, hcz18_2, hcz18_3, hcz18_4, hcz18_5, hfz18_0, hfz18_1, hfz18_2, hfz18_3, hfz18_4, hfz18_5⟩ := cs6_ BK218.out) | (go_at_call 48; (with_reducible refine (cargo_within.calls a0_3 255 true _ A4.out).mono ?_); rintro e w' ⟨rfl, ⟨nd, rfl⟩⟩) | (go_at_call 48; (with_reducible refine (cargo_within.calls a0_5 1000000000000 true _ A6.out).mono ?_); rintro e w' ⟨rfl, ⟨nd, rfl⟩⟩) | (go_at_call 48; (with_reducible refine (cargo_within.calls a0_0 1000000 false _ A8.out).mono ?_); rintro e w' ⟨rfl, ⟨nd, rfl⟩⟩))
      go_ret
      exact ⟨tE_, dL1_ HB GE218⟩
    ·replace c7 := Bool.eq_false_iff.mpr c7; subst c7; rw [if_neg (show ¬ (false = true) by decide)] at H; obtain rfl := Option.some.inj H
     go_enter Try.func38, Try.ntmps38
     go_wp2_with (first | ((with_reducible refine gate_dst (N := 1) rfl ?_); refine bx_ (N := 1) (cs := #[.int .i64 a0_0, .int .i64 a0_1, .int .i64 a0_2, .int .i64 a0_3, .int .i64 a0_4, .int .i64 a0_5]) (t := 49) ?_; intro gb218 hg w19 hbox hb; have BK218 := Aside0.mk (hbox); have GW218 := Aside0.mk ((dS_ hg (dL_ HB) : w.heap.size ≤ gb218)); have GE218 := GW218; replace HB := Aside0.mk (below_step (dL_ HB) hb); clear hb hbox hg; obtain ⟨hcz20_0, hcz20_1, hcz20_2, hcz20_3, hcz20_4, hcz20_5, hfz20_0, hfz20_1, hfz20_2, hfz20_3, hfz20_4, hfz20_5⟩ := cs6_ BK218.out) | (go_at_call 48; (with_reducible refine (cargo_within.calls a0_3 255 true _ A4.out).mono ?_); rintro e w' ⟨rfl, ⟨nd, rfl⟩⟩) | (go_at_call 48; (with_reducible refine (cargo_within.calls a0_5 1000000000000 false _ A6.out).mono ?_); rintro e w' ⟨rfl, ⟨nd, rfl⟩⟩))
     go_ret
     exact ⟨tE_, dL1_ HB GE218⟩
   ·replace c5 := Bool.eq_false_iff.mpr c5; subst c5; rw [if_neg (show ¬ (false = true) by decide)] at H; obtain rfl := Option.some.inj H
    go_enter Try.func38, Try.ntmps38
    go_wp2_with (first | ((with_reducible refine gate_dst (N := 1) rfl ?_); refine bx_ (N := 1) (cs := #[.int .i64 a0_0, .int .i64 a0_1, .int .i64 a0_2, .int .i64 a0_3, .int .i64 a0_4, .int .i64 a0_5]) (t := 49) ?_; intro gb218 hg w21 hbox hb; have BK218 := Aside0.mk (hbox); have GW218 := Aside0.mk ((dS_ hg (dL_ HB) : w.heap.size ≤ gb218)); have GE218 := GW218; replace HB := Aside0.mk (below_step (dL_ HB) hb); clear hb hbox hg; obtain ⟨hcz22_0, hcz22_1, hcz22_2, hcz22_3, hcz22_4, hcz22_5, hfz22_0, hfz22_1, hfz22_2, hfz22_3, hfz22_4, hfz22_5⟩ := cs6_ BK218.out) | (go_at_call 48; (with_reducible refine (cargo_within.calls a0_3 255 false _ A4.out).mono ?_); rintro e w' ⟨rfl, ⟨nd, rfl⟩⟩))
    go_ret
    exact ⟨tE_, dL1_ HB GE218⟩
  ·rw [if_neg c3] at H; have c3b0 : decide (a0_4 ≤ 1000000) = false := decide_eq_false c3; clear c3; obtain rfl := Option.some.inj H
   go_enter Try.func38, Try.ntmps38
   go_wp2_with (first | ((with_reducible refine gate_dst (N := 1) rfl ?_); refine bx_ (N := 1) (cs := #[.int .i64 a0_0, .int .i64 a0_1, .int .i64 a0_2, .int .i64 a0_3, .int .i64 a0_4, .int .i64 a0_5]) (t := 49) ?_; intro gb218 hg w23 hbox hb; have BK218 := Aside0.mk (hbox); have GW218 := Aside0.mk ((dS_ hg (dL_ HB) : w.heap.size ≤ gb218)); have GE218 := GW218; replace HB := Aside0.mk (below_step (dL_ HB) hb); clear hb hbox hg; obtain ⟨hcz24_0, hcz24_1, hcz24_2, hcz24_3, hcz24_4, hcz24_5, hfz24_0, hfz24_1, hfz24_2, hfz24_3, hfz24_4, hfz24_5⟩ := cs6_ BK218.out))
   go_ret
   exact ⟨tE_, dL1_ HB GE218⟩
 ·rw [if_neg c2] at H; have c2b0 : decide (1 ≤ a0_4) = false := decide_eq_false c2; clear c2; obtain rfl := Option.some.inj H
  go_enter Try.func38, Try.ntmps38
  go_wp2_with (first | ((with_reducible refine gate_dst (N := 1) rfl ?_); refine bx_ (N := 1) (cs := #[.int .i64 a0_0, .int .i64 a0_1, .int .i64 a0_2, .int .i64 a0_3, .int .i64 a0_4, .int .i64 a0_5]) (t := 49) ?_; intro gb218 hg w25 hbox hb; have BK218 := Aside0.mk (hbox); have GW218 := Aside0.mk ((dS_ hg (dL_ HB) : w.heap.size ≤ gb218)); have GE218 := GW218; replace HB := Aside0.mk (below_step (dL_ HB) hb); clear hb hbox hg; obtain ⟨hcz26_0, hcz26_1, hcz26_2, hcz26_3, hcz26_4, hcz26_5, hfz26_0, hfz26_1, hfz26_2, hfz26_3, hfz26_4, hfz26_5⟩ := cs6_ BK218.out))
  go_ret
  exact ⟨tE_, dL1_ HB GE218⟩

end Go.Proofs.Ytgnahbjpockdmab.Q
namespace Go.Proofs.Ytgnahbjpockdmab.Q
open Go.RowKit Go.Proofs.YtgnahbjpockdmabPrs Go.Proofs.YtgnahbjpockdmabOwn Go.Proofs.YtgnahbjpockdmabW.PrintWords Go.Proofs.YtgnahbjpockdmabW.PrintLast Go.Proofs.YtgnahbjpockdmabW.PrintMore
attribute [local go_sem] max2_int min2_int max_two min_two max_three min_three max_four min_four   -- for this text's walks alone
set_option linter.unusedVariables false
set_option linter.unusedSimpArgs false

/-! ### cmp_Or_int: function 49 -/
def cmp_Or_int.l0 : Nat → Int → List Int → Int → Int → Option (Int)
  | 0, _, _, _, _ => none
  | k + 1, x3, x6, x7, x8 => if x8 < x7 then (if 0 ≤ x8 then (if x8 < (x6.length : Int) then (if (rd x6 x8) = x3 then (cmp_Or_int.l0 k x3 x6 x7 (wrap64 (x8 + 1))) else (some (rd x6 x8))) else (none)) else (none)) else (some x3)
def cmp_Or_int.f (k : Nat) (l0 : List Int) : Option (Int) := cmp_Or_int.l0 k 0 l0 (l0.length : Int) 0
theorem cmp_Or_int.mono_l : ∀ k, (∀ y0 y1 y2 y3, LeO (cmp_Or_int.l0 k y0 y1 y2 y3) (cmp_Or_int.l0 (k + 1) y0 y1 y2 y3))
  | 0 => fun _ _ _ _ r h => by simp [cmp_Or_int.l0] at h
  | k + 1 => by
    have ih0 := cmp_Or_int.mono_l k
    · intro y0 y1 y2 y3
      unfold cmp_Or_int.l0
      repeat' first
      | (with_reducible first | apply ih0 | exact LeO.refl _ | exact LeO.none _ | refine LeO.ite ?_ ?_ | refine LeO.bind ?_ (fun _ => ?_))
theorem cmp_Or_int.mono : ∀ a0 k, LeO (cmp_Or_int.f k a0) (cmp_Or_int.f (k + 1) a0) := by
  intro a0 k; have ih0 := cmp_Or_int.mono_l k
  unfold cmp_Or_int.f
  repeat' first
      | (with_reducible first | apply ih0 | exact LeO.refl _ | exact LeO.none _ | refine LeO.ite ?_ ?_ | refine LeO.bind ?_ (fun _ => ?_))
set_option maxHeartbeats 8000000 in
set_option maxRecDepth 100000 in
theorem cmp_Or_int.calls (k : Nat) (A0 : Option Addr) (c0 : Nat) (l0 : List Int) (r : Int) (w : World) (hr0 : Kd.C (Kd.int .i64) w A0 l0.length l0) (hc0 : l0.length ≤ c0) (h : cmp_Or_int.f k l0 = some r) :
    Calls Try.prog 49 #[.slice A0 l0.length c0] w fun e w' => e = .returned (.int .i64 r) ∧ Drawn0 w w' := by
 have HR0 := Aside0.mk hr0; have HC0 := Aside0.mk hc0; clear hr0 hc0; have H : (cmp_Or_int.l0 k 0 l0 (l0.length : Int) 0) = some r := h; clear h; have H' := Aside0.mk H; clear H
 go_enter Try.func49, Try.ntmps49
 go_wp2
 go_loopg [8] k (fun kq v8 w' => ∃ (x8_1 : Int), v8 = .int .i64 x8_1 ∧ Aside0 (cmp_Or_int.l0 kq 0 l0 (l0.length : Int) x8_1 = some r) ∧ Aside0 (kq ≤ k) ∧ Drawn0 w w')
 case atStart => exact ⟨(0), tS_, H', ⟨Nat.le_refl _⟩, by repeat (first | exact Drawn0.refl _ | apply Drawn0.step)⟩
 case round =>
  clear H'; obtain ⟨x8_1, rfl, HA, HK1, ⟨m1, rfl⟩⟩ := hrel
  cases gk with
  | zero => exact absurd HA.out (by simp [cmp_Or_int.l0])
  | succ k1 =>
   have H := HA.out; clear HA; simp only [cmp_Or_int.l0] at H
   by_cases c2 : x8_1 < (l0.length : Int)
   ·rw [if_pos c2] at H; have c2b0 : decide (x8_1 < (l0.length : Int)) = true := decide_eq_true c2; clear c2
    by_cases c3 : 0 ≤ x8_1
    ·rw [if_pos c3] at H; have c3b0 : decide (0 ≤ x8_1) = true := decide_eq_true c3; clear c3
     by_cases c4 : x8_1 < (l0.length : Int)
     ·rw [if_pos c4] at H; have c4b0 : decide (x8_1 < (l0.length : Int)) = true := decide_eq_true c4; clear c4
      by_cases c5 : (rd l0 x8_1) = 0
      ·rw [if_pos c5] at H; have c5b0 : ((rd l0 x8_1) == 0) = true := beq_iff_eq.mpr c5; have c5b1 : ((rd l0 x8_1) != 0) = false := bne_eq_false_iff_eq.mpr c5; clear c5; have H' := Aside0.mk H; clear H; have p224 : 0 ≤ (x8_1 : Int) := of_decide_eq_true tW_; have q224 : x8_1 < (l0.length : Int) := of_decide_eq_true tW_; obtain ⟨ad224, e224, hx224_0⟩ := Kd.at_int HR0.out x8_1 p224 q224; cases e224; replace p224 := eq_true p224; replace q224 := eq_true q224; go_wp2
       go_roundg k1
       case measure => have := HK1.out; omega
       case rel => exact ⟨(wrap64 (x8_1 + 1)), tS_, H', ⟨by have := HK1.out; omega⟩, by repeat (first | exact Drawn0.refl _ | apply Drawn0.step)⟩
      ·rw [if_neg c5] at H; have c5b0 : ((rd l0 x8_1) == 0) = false := beq_eq_false_iff_ne.mpr c5; have c5b1 : ((rd l0 x8_1) != 0) = true := bne_iff_ne.mpr c5; obtain rfl := Option.some.inj H; have p224 : 0 ≤ (x8_1 : Int) := of_decide_eq_true tW_; have q224 : x8_1 < (l0.length : Int) := of_decide_eq_true tW_; obtain ⟨ad224, e224, hx224_0⟩ := Kd.at_int HR0.out x8_1 p224 q224; cases e224; replace p224 := eq_true p224; replace q224 := eq_true q224; go_wp2
       go_ret
       exact ⟨tS_, by repeat (first | exact Drawn0.refl _ | apply Drawn0.step)⟩
     ·rw [if_neg c4] at H; exact absurd H (by simp)
    ·rw [if_neg c3] at H; exact absurd H (by simp)
   ·rw [if_neg c2] at H; have c2b0 : decide (x8_1 < (l0.length : Int)) = false := decide_eq_false c2; clear c2; obtain rfl := Option.some.inj H; go_wp2
    go_ret
    exact ⟨tS_, by repeat (first | exact Drawn0.refl _ | apply Drawn0.step)⟩

end Go.Proofs.Ytgnahbjpockdmab.Q
namespace Go.Proofs.Ytgnahbjpockdmab.Q
open Go.RowKit Go.Proofs.YtgnahbjpockdmabPrs Go.Proofs.YtgnahbjpockdmabOwn Go.Proofs.YtgnahbjpockdmabW.PrintWords Go.Proofs.YtgnahbjpockdmabW.PrintLast Go.Proofs.YtgnahbjpockdmabW.PrintMore
attribute [local go_sem] max2_int min2_int max_two min_two max_three min_three max_four min_four   -- for this text's walks alone
set_option linter.unusedVariables false
set_option linter.unusedSimpArgs false

/-! ### cmp_isNaN_int: function 55 -/
def cmp_isNaN_int.f (a0 : Int) : Option (Bool) := some (a0 != a0)
set_option maxHeartbeats 8000000 in
set_option maxRecDepth 100000 in
theorem cmp_isNaN_int.calls (a0 : Int) (r : Bool) (w : World) (h : cmp_isNaN_int.f a0 = some r) :
    Calls Try.prog 55 #[.int .i64 a0] w fun e w' => e = .returned (.bool r) ∧ Drawn0 w w' := by
 have H : (some (a0 != a0)) = some r := h; clear h; obtain rfl := Option.some.inj H
 go_enter Try.func55, Try.ntmps55
 go_wp2
 go_ret
 exact ⟨tS_, by repeat (first | exact Drawn0.refl _ | apply Drawn0.step)⟩

end Go.Proofs.Ytgnahbjpockdmab.Q
namespace Go.Proofs.Ytgnahbjpockdmab.Q
open Go.RowKit Go.Proofs.YtgnahbjpockdmabPrs Go.Proofs.YtgnahbjpockdmabOwn Go.Proofs.YtgnahbjpockdmabW.PrintWords Go.Proofs.YtgnahbjpockdmabW.PrintLast Go.Proofs.YtgnahbjpockdmabW.PrintMore
attribute [local go_sem] max2_int min2_int max_two min_two max_three min_three max_four min_four   -- for this text's walks alone
set_option linter.unusedVariables false
set_option linter.unusedSimpArgs false

/-! ### cmp_Compare_int: function 50 -/
def cmp_Compare_int.f (a0 : Int) (a1 : Int) : Option (Int) := (cmp_isNaN_int.f a0).bind fun t225 => ((cmp_isNaN_int.f a1).bind fun t226 => (if t225 = true then (if t226 = true then (some 0) else (some (-1))) else (if t226 = true then (some 1) else (if a0 < a1 then (some (-1)) else (if a0 > a1 then (some 1) else (some 0))))))
set_option maxHeartbeats 8000000 in
set_option maxRecDepth 100000 in
theorem cmp_Compare_int.calls (a0 : Int) (a1 : Int) (r : Int) (w : World) (h : cmp_Compare_int.f a0 a1 = some r) :
    Calls Try.prog 50 #[.int .i64 a0, .int .i64 a1] w fun e w' => e = .returned (.int .i64 r) ∧ Drawn0 w w' := by
 have H : ((cmp_isNaN_int.f a0).bind fun t225 => ((cmp_isNaN_int.f a1).bind fun t226 => (if t225 = true then (if t226 = true then (some 0) else (some (-1))) else (if t226 = true then (some 1) else (if a0 < a1 then (some (-1)) else (if a0 > a1 then (some 1) else (some 0))))))) = some r := h; clear h; replace H := Option.bind_eq_some_iff.mp H; obtain ⟨t225, A30, H⟩ := H; have A3 := Aside0.mk A30; clear A30; replace H := Option.bind_eq_some_iff.mp H; obtain ⟨t226, A40, H⟩ := H; have A4 := Aside0.mk A40; clear A40
 by_cases c5 : t225 = true
 ·subst c5; rw [if_pos rfl] at H
  by_cases c6 : t226 = true
  ·subst c6; rw [if_pos rfl] at H; obtain rfl := Option.some.inj H
   go_enter Try.func50, Try.ntmps50
   go_wp2_with (first | ((with_reducible refine gate_callee (f := 55) rfl ?_); refine gL_ (some 8) Try.func55 #[.int .i64 a0] ?_ rfl; (with_reducible refine (cmp_isNaN_int.calls a0 true _ A3.out).mono ?_); rintro e w' ⟨rfl, ⟨nd, rfl⟩⟩; refine ⟨_, rfl, ?_⟩) | ((with_reducible refine gate_callee (f := 55) rfl ?_); refine gL_ (some 10) Try.func55 #[.int .i64 a1] ?_ rfl; (with_reducible refine (cmp_isNaN_int.calls a1 true _ A4.out).mono ?_); rintro e w' ⟨rfl, ⟨nd, rfl⟩⟩; refine ⟨_, rfl, ?_⟩))
   go_ret
   exact ⟨tS_, by repeat (first | exact Drawn0.refl _ | apply Drawn0.step)⟩
  ·replace c6 := Bool.eq_false_iff.mpr c6; subst c6; rw [if_neg (show ¬ (false = true) by decide)] at H; obtain rfl := Option.some.inj H
   go_enter Try.func50, Try.ntmps50
   go_wp2_with (first | ((with_reducible refine gate_callee (f := 55) rfl ?_); refine gL_ (some 8) Try.func55 #[.int .i64 a0] ?_ rfl; (with_reducible refine (cmp_isNaN_int.calls a0 true _ A3.out).mono ?_); rintro e w' ⟨rfl, ⟨nd, rfl⟩⟩; refine ⟨_, rfl, ?_⟩) | ((with_reducible refine gate_callee (f := 55) rfl ?_); refine gL_ (some 10) Try.func55 #[.int .i64 a1] ?_ rfl; (with_reducible refine (cmp_isNaN_int.calls a1 false _ A4.out).mono ?_); rintro e w' ⟨rfl, ⟨nd, rfl⟩⟩; refine ⟨_, rfl, ?_⟩))
   go_ret
   exact ⟨tS_, by repeat (first | exact Drawn0.refl _ | apply Drawn0.step)⟩
 ·replace c5 := Bool.eq_false_iff.mpr c5; subst c5; rw [if_neg (show ¬ (false = true) by decide)] at H
  by_cases c7 : t226 = true
  ·subst c7; rw [if_pos rfl] at H; obtain rfl := Option.some.inj H
   go_enter Try.func50, Try.ntmps50
   go_wp2_with (first | ((with_reducible refine gate_callee (f := 55) rfl ?_); refine gL_ (some 8) Try.func55 #[.int .i64 a0] ?_ rfl; (with_reducible refine (cmp_isNaN_int.calls a0 false _ A3.out).mono ?_); rintro e w' ⟨rfl, ⟨nd, rfl⟩⟩; refine ⟨_, rfl, ?_⟩) | ((with_reducible refine gate_callee (f := 55) rfl ?_); refine gL_ (some 10) Try.func55 #[.int .i64 a1] ?_ rfl; (with_reducible refine (cmp_isNaN_int.calls a1 true _ A4.out).mono ?_); rintro e w' ⟨rfl, ⟨nd, rfl⟩⟩; refine ⟨_, rfl, ?_⟩))
   go_ret
   exact ⟨tS_, by repeat (first | exact Drawn0.refl _ | apply Drawn0.step)⟩
  ·replace c7 := Bool.eq_false_iff.mpr c7; subst c7; rw [if_neg (show ¬ (false = true) by decide)] at H
   by_cases c8 : a0 < a1
   ·rw [if_pos c8] at H; have c8b0 : decide (a0 < a1) = true := decide_eq_true c8; clear c8; obtain rfl := Option.some.inj H
    go_enter Try.func50, Try.ntmps50
    go_wp2_with (first | ((with_reducible refine gate_callee (f := 55) rfl ?_); refine gL_ (some 8) Try.func55 #[.int .i64 a0] ?_ rfl; (with_reducible refine (cmp_isNaN_int.calls a0 false _ A3.out).mono ?_); rintro e w' ⟨rfl, ⟨nd, rfl⟩⟩; refine ⟨_, rfl, ?_⟩) | ((with_reducible refine gate_callee (f := 55) rfl ?_); refine gL_ (some 10) Try.func55 #[.int .i64 a1] ?_ rfl; (with_reducible refine (cmp_isNaN_int.calls a1 false _ A4.out).mono ?_); rintro e w' ⟨rfl, ⟨nd, rfl⟩⟩; refine ⟨_, rfl, ?_⟩))
    go_ret
    exact ⟨tS_, by repeat (first | exact Drawn0.refl _ | apply Drawn0.step)⟩
   ·rw [if_neg c8] at H; have c8b0 : decide (a0 < a1) = false := decide_eq_false c8; clear c8
    by_cases c9 : a0 > a1
    ·rw [if_pos c9] at H; have c9b0 : decide (a1 < a0) = true := decide_eq_true c9; clear c9; obtain rfl := Option.some.inj H
     go_enter Try.func50, Try.ntmps50
     go_wp2_with (first | ((with_reducible refine gate_callee (f := 55) rfl ?_); refine gL_ (some 8) Try.func55 #[.int .i64 a0] ?_ rfl; (with_reducible refine (cmp_isNaN_int.calls a0 false _ A3.out).mono ?_); rintro e w' ⟨rfl, ⟨nd, rfl⟩⟩; refine ⟨_, rfl, ?_⟩) | ((with_reducible refine gate_callee (f := 55) rfl ?_); refine gL_ (some 10) Try.func55 #[.int .i64 a1] ?_ rfl; (with_reducible refine (cmp_isNaN_int.calls a1 false _ A4.out).mono ?_); rintro e w' ⟨rfl, ⟨nd, rfl⟩⟩; refine ⟨_, rfl, ?_⟩))
     go_ret
     exact ⟨tS_, by repeat (first | exact Drawn0.refl _ | apply Drawn0.step)⟩
    ·rw [if_neg c9] at H; have c9b0 : decide (a1 < a0) = false := decide_eq_false c9; clear c9; obtain rfl := Option.some.inj H
     go_enter Try.func50, Try.ntmps50
     go_wp2_with (first | ((with_reducible refine gate_callee (f := 55) rfl ?_); refine gL_ (some 8) Try.func55 #[.int .i64 a0] ?_ rfl; (with_reducible refine (cmp_isNaN_int.calls a0 false _ A3.out).mono ?_); rintro e w' ⟨rfl, ⟨nd, rfl⟩⟩; refine ⟨_, rfl, ?_⟩) | ((with_reducible refine gate_callee (f := 55) rfl ?_); refine gL_ (some 10) Try.func55 #[.int .i64 a1] ?_ rfl; (with_reducible refine (cmp_isNaN_int.calls a1 false _ A4.out).mono ?_); rintro e w' ⟨rfl, ⟨nd, rfl⟩⟩; refine ⟨_, rfl, ?_⟩))
     go_ret
     exact ⟨tS_, by repeat (first | exact Drawn0.refl _ | apply Drawn0.step)⟩

end Go.Proofs.Ytgnahbjpockdmab.Q
namespace Go.Proofs.Ytgnahbjpockdmab.Q
open Go.RowKit Go.Proofs.YtgnahbjpockdmabPrs Go.Proofs.YtgnahbjpockdmabOwn Go.Proofs.YtgnahbjpockdmabW.PrintWords Go.Proofs.YtgnahbjpockdmabW.PrintLast Go.Proofs.YtgnahbjpockdmabW.PrintMore
attribute [local go_sem] max2_int min2_int max_two min_two max_three min_three max_four min_four   -- for this text's walks alone
set_option linter.unusedVariables false
set_option linter.unusedSimpArgs false

/-! ### hinterlandref10_Named: function 56 -/
mutual
def hinterlandref10_Named.j0 : Nat → ByteArray → Bool → Option (Bool)
  | 0, _, _ => none
  | k + 1, x0, x11 => if x11 = true then (some false) else (hinterlandref10_Named.l0 k x0 0)
def hinterlandref10_Named.l0 : Nat → ByteArray → Int → Option (Bool)
  | 0, _, _ => none
  | k + 1, x0, x3 => if x3 < (x0.size : Int) then (if 0 ≤ x3 then (if (bt x0 x3) < 97 then (hinterlandref10_Named.j2 k x0 x3 true) else (hinterlandref10_Named.j2 k x0 x3 (decide ((bt x0 x3) > 122)))) else (none)) else (some true)
def hinterlandref10_Named.j2 : Nat → ByteArray → Int → Bool → Option (Bool)
  | 0, _, _, _ => none
  | k + 1, x0, x3, x27 => if x27 = true then (some false) else (hinterlandref10_Named.l0 k x0 (wrap64 (x3 + 1)))
end
def hinterlandref10_Named.f (k : Nat) (a0 : ByteArray) : Option (Bool) := if (a0.size : Int) < 1 then (hinterlandref10_Named.j0 k a0 true) else (hinterlandref10_Named.j0 k a0 (decide ((a0.size : Int) > 12)))
theorem hinterlandref10_Named.mono_l : ∀ k, (∀ y0 y1, LeO (hinterlandref10_Named.j0 k y0 y1) (hinterlandref10_Named.j0 (k + 1) y0 y1)) ∧ (∀ y0 y1, LeO (hinterlandref10_Named.l0 k y0 y1) (hinterlandref10_Named.l0 (k + 1) y0 y1)) ∧ (∀ y0 y1 y2, LeO (hinterlandref10_Named.j2 k y0 y1 y2) (hinterlandref10_Named.j2 (k + 1) y0 y1 y2))
  | 0 => ⟨fun _ _ r h => by simp [hinterlandref10_Named.j0] at h, fun _ _ r h => by simp [hinterlandref10_Named.l0] at h, fun _ _ _ r h => by simp [hinterlandref10_Named.j2] at h⟩
  | k + 1 => by
    obtain ⟨ih0, ih1, ih2⟩ := hinterlandref10_Named.mono_l k; refine ⟨?_, ?_, ?_⟩
    · intro y0 y1
      unfold hinterlandref10_Named.j0
      repeat' first
      | (with_reducible first | apply ih0 | apply ih1 | apply ih2 | exact LeO.refl _ | exact LeO.none _ | refine LeO.ite ?_ ?_ | refine LeO.bind ?_ (fun _ => ?_))
    · intro y0 y1
      unfold hinterlandref10_Named.l0
      repeat' first
      | (with_reducible first | apply ih0 | apply ih1 | apply ih2 | exact LeO.refl _ | exact LeO.none _ | refine LeO.ite ?_ ?_ | refine LeO.bind ?_ (fun _ => ?_))
    · intro y0 y1 y2
      unfold hinterlandref10_Named.j2
      repeat' first
      | (with_reducible first | apply ih0 | apply ih1 | apply ih2 | exact LeO.refl _ | exact LeO.none _ | refine LeO.ite ?_ ?_ | refine LeO.bind ?_ (fun _ => ?_))
theorem hinterlandref10_Named.mono : ∀ a0 k, LeO (hinterlandref10_Named.f k a0) (hinterlandref10_Named.f (k + 1) a0) := by
  intro a0 k; obtain ⟨ih0, ih1, ih2⟩ := hinterlandref10_Named.mono_l k
  unfold hinterlandref10_Named.f
  repeat' first
      | (with_reducible first | apply ih0 | apply ih1 | apply ih2 | exact LeO.refl _ | exact LeO.none _ | refine LeO.ite ?_ ?_ | refine LeO.bind ?_ (fun _ => ?_))
set_option maxHeartbeats 8000000 in
set_option maxRecDepth 100000 in
theorem hinterlandref10_Named.calls (k : Nat) (a0 : ByteArray) (r : Bool) (w : World) (h : hinterlandref10_Named.f k a0 = some r) :
    Calls Try.prog 56 #[.string a0] w fun e w' => e = .returned (.bool r) ∧ Drawn0 w w' := by
 have H : (if (a0.size : Int) < 1 then (hinterlandref10_Named.j0 k a0 true) else (hinterlandref10_Named.j0 k a0 (decide ((a0.size : Int) > 12)))) = some r := h; clear h; have HC2 := Aside0.mk H; clear H
 go_enter Try.func56, Try.ntmps56
 go_upto_region 1 with (fail)
 go_cut [11] (fun v11 wc => ∃ (kq : Nat) (x11_1 : Bool), v11 = .bool x11_1 ∧ Aside0 (hinterlandref10_Named.j0 kq a0 x11_1 = some r) ∧ Aside0 (kq ≤ k) ∧ Drawn0 w wc)
 case first =>
  have H := HC2.out; clear HC2
  by_cases c3 : (a0.size : Int) < 1
  ·rw [if_pos c3] at H; have c3b0 : decide ((a0.size : Int) < 1) = true := decide_eq_true c3; have c3b1 : decide (a0.size < 1) = true := decide_eq_true (by omega); clear c3
   (first | rw [c3b0] | (simp only [i64_w, i32_w]; rw [c3b0]) | skip)
   have H' := Aside0.mk H; clear H; go_wp2
   go_meet
   case rel => exact ⟨_, (true), tS_, H', ⟨by first | omega | exact Nat.le_refl _⟩, by repeat (first | exact Drawn0.refl _ | apply Drawn0.step)⟩
  ·rw [if_neg c3] at H; have c3b0 : decide ((a0.size : Int) < 1) = false := decide_eq_false c3; have c3b1 : decide (a0.size < 1) = false := decide_eq_false (by omega); clear c3
   (first | rw [c3b0] | (simp only [i64_w, i32_w]; rw [c3b0]) | skip)
   have H' := Aside0.mk H; clear H; go_wp2
   go_meet
   case rel => exact ⟨_, (decide ((a0.size : Int) > 12)), tS_, H', ⟨by first | omega | exact Nat.le_refl _⟩, by repeat (first | exact Drawn0.refl _ | apply Drawn0.step)⟩
 case rest =>
  clear HC2; (try clear c3); obtain ⟨kq, x11_1, rfl, HA, HJ1, ⟨mc1, rfl⟩⟩ := hcut
  cases kq with
  | zero => exact absurd HA.out (by simp [hinterlandref10_Named.j0])
  | succ kj1 =>
   have H := HA.out; clear HA; simp only [hinterlandref10_Named.j0] at H
   by_cases c4 : x11_1 = true
   ·subst c4; rw [if_pos rfl] at H; obtain rfl := Option.some.inj H; go_wp2
    go_ret
    exact ⟨tS_, by repeat (first | exact Drawn0.refl _ | apply Drawn0.step)⟩
   ·replace c4 := Bool.eq_false_iff.mpr c4; subst c4; rw [if_neg (show ¬ (false = true) by decide)] at H; have H' := Aside0.mk H; clear H; go_wp2
    go_loopg [3] kj1 (fun kq v3 w' => ∃ (x3_2 : Int), v3 = .int .i64 x3_2 ∧ Aside0 (hinterlandref10_Named.l0 kq a0 x3_2 = some r) ∧ Aside0 (kq ≤ kj1) ∧ Drawn0 w w')
    case atStart => exact ⟨(0), tS_, H', ⟨Nat.le_refl _⟩, by repeat (first | exact Drawn0.refl _ | apply Drawn0.step)⟩
    case round =>
     clear H'; (try clear c3); (try clear c4); obtain ⟨x3_2, rfl, HA, HK2, ⟨m2, rfl⟩⟩ := hrel
     cases gk with
     | zero => exact absurd HA.out (by simp [hinterlandref10_Named.l0])
     | succ k2 =>
      have H := HA.out; clear HA; simp only [hinterlandref10_Named.l0] at H
      by_cases c5 : x3_2 < (a0.size : Int)
      ·rw [if_pos c5] at H; have c5b0 : decide (x3_2 < (a0.size : Int)) = true := decide_eq_true c5; clear c5; have HC6 := Aside0.mk H; clear H
       go_upto_region 6 with (fail)
       go_cut [27] (fun v27 wc => ∃ (kq : Nat) (x27_5 : Bool), v27 = .bool x27_5 ∧ Aside0 (hinterlandref10_Named.j2 kq a0 x3_2 x27_5 = some r) ∧ Aside0 (kq ≤ k2) ∧ Drawn0 w wc)
       case first =>
        have H := HC6.out; clear HC6
        by_cases c7 : 0 ≤ x3_2
        ·rw [if_pos c7] at H; have c7b0 : decide (0 ≤ x3_2) = true := decide_eq_true c7; clear c7
         (first | rw [c7b0] | (simp only [i64_w, i32_w]; rw [c7b0]) | skip)
         by_cases c9 : (bt a0 x3_2) < 97
         ·rw [if_pos c9] at H; have c9b0 : decide ((bt a0 x3_2) < 97) = true := decide_eq_true c9; clear c9; have H' := Aside0.mk H; clear H; have p8 : 0 ≤ (x3_2 : Int) := of_decide_eq_true tW_; have q8 : x3_2 < (a0.size : Int) := of_decide_eq_true tW_; have hx8 := bt_at a0 x3_2; replace p8 := eq_true p8; replace q8 := eq_true q8; go_wp2
          go_meet
          case rel => exact ⟨_, (true), tS_, H', ⟨by have := HJ1.out; have := HK2.out; first | omega | exact Nat.le_refl _⟩, by repeat (first | exact Drawn0.refl _ | apply Drawn0.step)⟩
         ·rw [if_neg c9] at H; have c9b0 : decide ((bt a0 x3_2) < 97) = false := decide_eq_false c9; clear c9; have H' := Aside0.mk H; clear H; have p8 : 0 ≤ (x3_2 : Int) := of_decide_eq_true tW_; have q8 : x3_2 < (a0.size : Int) := of_decide_eq_true tW_; have hx8 := bt_at a0 x3_2; replace p8 := eq_true p8; replace q8 := eq_true q8; have p10 : 0 ≤ (x3_2 : Int) := of_decide_eq_true tW_; have q10 : x3_2 < (a0.size : Int) := of_decide_eq_true tW_; have hx10 := bt_at a0 x3_2; replace p10 := eq_true p10; replace q10 := eq_true q10; go_wp2
          go_meet
          case rel => exact ⟨_, (decide ((bt a0 x3_2) > 122)), tS_, H', ⟨by have := HJ1.out; have := HK2.out; first | omega | exact Nat.le_refl _⟩, by repeat (first | exact Drawn0.refl _ | apply Drawn0.step)⟩
        ·rw [if_neg c7] at H; exact absurd H (by simp)
       case rest =>
        clear HC6; (try clear c3); (try clear c4); (try clear c5); (try clear c5b0); (try clear c7); (try clear c9); obtain ⟨kq, x27_5, rfl, HA, HJ5, ⟨mc5, rfl⟩⟩ := hcut
        cases kq with
        | zero => exact absurd HA.out (by simp [hinterlandref10_Named.j2])
        | succ kj5 =>
         have H := HA.out; clear HA; simp only [hinterlandref10_Named.j2] at H
         by_cases c11 : x27_5 = true
         ·subst c11; rw [if_pos rfl] at H; obtain rfl := Option.some.inj H; go_wp2
          go_ret
          exact ⟨tS_, by repeat (first | exact Drawn0.refl _ | apply Drawn0.step)⟩
         ·replace c11 := Bool.eq_false_iff.mpr c11; subst c11; rw [if_neg (show ¬ (false = true) by decide)] at H; have H' := Aside0.mk H; clear H; go_wp2
          go_roundg kj5
          case measure => have := HJ1.out; have := HK2.out; have := HJ5.out; omega
          case rel => exact ⟨(wrap64 (x3_2 + 1)), tS_, H', ⟨by have := HJ1.out; have := HK2.out; have := HJ5.out; omega⟩, by repeat (first | exact Drawn0.refl _ | apply Drawn0.step)⟩
      ·rw [if_neg c5] at H; have c5b0 : decide (x3_2 < (a0.size : Int)) = false := decide_eq_false c5; clear c5; obtain rfl := Option.some.inj H; go_wp2
       go_ret
       exact ⟨tS_, by repeat (first | exact Drawn0.refl _ | apply Drawn0.step)⟩

end Go.Proofs.Ytgnahbjpockdmab.Q
