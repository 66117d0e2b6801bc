-- PRINTED by print.py out of the translation. Not trusted: Lean checks it.
import Derived.Test.YtgnahbjpockdmaaPrs
import Derived.Test.YtgnahbjpockdmaaQ0
import Derived.Test.YtgnahbjpockdmaaQ8
import Derived.Test.YtgnahbjpockdmaaQ10
namespace Go.Proofs.Ytgnahbjpockdmaa.Q
open Go.RowKit Go.Proofs.YtgnahbjpockdmaaPrs Go.Proofs.YtgnahbjpockdmaaOwn Go.Proofs.YtgnahbjpockdmaaW.PrintWords Go.Proofs.YtgnahbjpockdmaaW.PrintLast Go.Proofs.YtgnahbjpockdmaaW.PrintMore
attribute [local go_sem] max2_int min2_int max_two min_two max_three min_three max_four min_four   -- for this text's walks alone
set_option linter.unusedVariables false
set_option linter.unusedSimpArgs false

/-! ### fleet_Facts: function 19 -/
def fleet_Facts.l0 : Nat → List (S54) → List Int → Int → Int → Int → Int → Int → Int → Int → Int → Int → Bool → Option (Int × Int × Int × Int × Int × Int × Int × Bool × Int)
  | 0, _, _, _, _, _, _, _, _, _, _, _, _ => none
  | k + 1, x0, x19, x20, x21, x173000, x173001, x173002, x173003, x173004, x173005, x173006, x173007 => if x21 < x20 then (if 0 ≤ x21 then (if x21 < (x19.length : Int) then (if 0 ≤ (rd x19 x21) then (if (rd x19 x21) < (x0.length : Int) then ((fleet_engine_add.f ((rd_T54 x0 (rd x19 x21)).f0) ((rd_T54 x0 (rd x19 x21)).f1) ((rd_T54 x0 (rd x19 x21)).f2) ((rd_T54 x0 (rd x19 x21)).f3) ((rd_T54 x0 (rd x19 x21)).f4) ((rd_T54 x0 (rd x19 x21)).f5) ((rd_T54 x0 (rd x19 x21)).f6) ((rd_T54 x0 (rd x19 x21)).f7) ((rd_T54 x0 (rd x19 x21)).f8) ((rd_T54 x0 (rd x19 x21)).f9) ((rd_T54 x0 (rd x19 x21)).f10) ((rd_T54 x0 (rd x19 x21)).f11) ((rd_T54 x0 (rd x19 x21)).f12) ((rd_T54 x0 (rd x19 x21)).f13) x173000 x173001 x173002 x173003 x173004 x173005 x173006 x173007).bind fun bt175 => (fleet_Facts.l0 k x0 x19 x20 (wrap64 (x21 + 1)) bt175.1 bt175.2.1 bt175.2.2.1 bt175.2.2.2.1 bt175.2.2.2.2.1 bt175.2.2.2.2.2.1 bt175.2.2.2.2.2.2.1 bt175.2.2.2.2.2.2.2)) else (none)) else (none)) else (none)) else (none)) else (if x173000 = 0 then (some (600, x173001, x173002, x173003, x173004, x173005, x173006, x173007, 0)) else (some (x173000, x173001, x173002, x173003, x173004, x173005, x173006, x173007, 0)))
def fleet_Facts.f (k : Nat) (l0 : List (S54)) (l1 : List Int) : Option (Int × Int × Int × Int × Int × Int × Int × Bool × Int) := (fleet_joined.f k l0 l1).bind fun t171 => (if t171 = 0 then (fleet_Facts.l0 k l0 l1 (l1.length : Int) 0 0 0 0 0 0 0 0 false) else (some (0, 0, 0, 0, 0, 0, 0, false, t171)))
theorem fleet_Facts.mono_l : ∀ k, (∀ y0 y1 y2 y3 y4 y5 y6 y7 y8 y9 y10 y11, LeO (fleet_Facts.l0 k y0 y1 y2 y3 y4 y5 y6 y7 y8 y9 y10 y11) (fleet_Facts.l0 (k + 1) y0 y1 y2 y3 y4 y5 y6 y7 y8 y9 y10 y11))
  | 0 => fun _ _ _ _ _ _ _ _ _ _ _ _ r h => by simp [fleet_Facts.l0] at h
  | k + 1 => by
    have ih0 := fleet_Facts.mono_l k
    · intro y0 y1 y2 y3 y4 y5 y6 y7 y8 y9 y10 y11
      unfold fleet_Facts.l0
      repeat' first
      | (with_reducible exact ih0 _ _ _ _ _ _ _ _ _ _ _ _)
      | (with_reducible exact fleet_joined.mono _ _ _)
      | (with_reducible exact LeO.refl _)
      | (with_reducible exact LeO.none _)
      | (with_reducible refine LeO.ite ?_ ?_)
      | (with_reducible refine LeO.bind ?_ (fun _ => ?_))
      | exact ih0 _ _ _ _ _ _ _ _ _ _ _ _
      | exact fleet_joined.mono _ _ _
      | exact LeO.none _
      | refine LeO.ite ?_ ?_
      | refine LeO.bind ?_ (fun _ => ?_)
theorem fleet_Facts.mono : ∀ a0 a1 k, LeO (fleet_Facts.f k a0 a1) (fleet_Facts.f (k + 1) a0 a1) := by
  intro a0 a1 k
  have ih0 := fleet_Facts.mono_l k
  unfold fleet_Facts.f
  repeat' first
      | (with_reducible exact ih0 _ _ _ _ _ _ _ _ _ _ _ _)
      | (with_reducible exact fleet_joined.mono _ _ _)
      | (with_reducible exact LeO.refl _)
      | (with_reducible exact LeO.none _)
      | (with_reducible refine LeO.ite ?_ ?_)
      | (with_reducible refine LeO.bind ?_ (fun _ => ?_))
      | exact ih0 _ _ _ _ _ _ _ _ _ _ _ _
      | exact fleet_joined.mono _ _ _
      | exact LeO.none _
      | refine LeO.ite ?_ ?_
      | refine LeO.bind ?_ (fun _ => ?_)
set_option maxHeartbeats 8000000 in
set_option maxRecDepth 100000 in
theorem fleet_Facts.calls (k : Nat) (A0 : Option Addr) (c0 : Nat) (l0 : List (S54)) (A1 : Option Addr) (c1 : Nat) (l1 : List Int) (r1 : Int) (r2 : Int) (r3 : Int) (r4 : Int) (r5 : Int) (r6 : Int) (r7 : Int) (r8 : Bool) (r9 : Int) (w : World) (hr0 : Kd.C k54 w A0 l0.length l0) (hc0 : l0.length ≤ c0) (hr1 : Kd.C (Kd.int .i64) w A1 l1.length l1) (hc1 : l1.length ≤ c1) (h : fleet_Facts.f k l0 l1 = some (r1, r2, r3, r4, r5, r6, r7, r8, r9)) :
    Calls Try.prog 19 #[.slice A0 l0.length c0, .slice A1 l1.length c1] w fun e w' => e = .returned (.tuple #[.agg #[.int .i64 r1, .int .i64 r2, .int .i64 r3, .int .i64 r4, .int .i64 r5, .int .i64 r6, .int .i64 r7, .bool r8], .int .i64 r9]) ∧ Below w.heap.size w w' := by
 have hu33 := Try.underlying33
 have hu54 := Try.underlying54
 have hu63 := Try.underlying63
 have HR0 := Aside0.mk hr0
 have HC0 := Aside0.mk hc0
 clear hr0 hc0
 have HR1 := Aside0.mk hr1
 have HC1 := Aside0.mk hc1
 clear hr1 hc1
 have HB := Aside0.mk (Below.refl w.heap.size w)
 have H : ((fleet_joined.f k l0 l1).bind fun t171 => (if t171 = 0 then (fleet_Facts.l0 k l0 l1 (l1.length : Int) 0 0 0 0 0 0 0 0 false) else (some (0, 0, 0, 0, 0, 0, 0, false, t171)))) = some (r1, r2, r3, r4, r5, r6, r7, r8, r9) := h
 clear h
 replace H := Option.bind_eq_some_iff.mp H
 obtain ⟨t171, A30, H⟩ := H
 replace H : (if t171 = 0 then (fleet_Facts.l0 k l0 l1 (l1.length : Int) 0 0 0 0 0 0 0 0 false) else (some (0, 0, 0, 0, 0, 0, 0, false, t171))) = some (r1, r2, r3, r4, r5, r6, r7, r8, r9) := H
 have A3 := Aside0.mk A30
 clear A30
 by_cases c4 : t171 = 0
 ·rw [if_pos c4] at H
  have c4b0 : (t171 == 0) = true := beq_iff_eq.mpr c4
  have c4b1 : (t171 != 0) = false := bne_eq_false_iff_eq.mpr c4
  clear c4
  have H' := Aside0.mk H
  clear H
  go_enter Try.func19, Try.ntmps19
  go_wp2_with (first | ((with_reducible refine gate_dst (N := 4) rfl ?_); refine box_event ?hg (N := 4) ?hd (cs := #[.int .i64 0, .int .i64 0, .int .i64 0, .int .i64 0, .int .i64 0, .int .i64 0, .int .i64 0, .bool false]) (t := 33) ?hr ?_; (case hd => rfl); (case hg => rfl); (case hr => first | (go_simp; done) | (go_simp; rfl)); intro gb170 hg w5 hbox hb; have n0_ := Aside0.mk (below_step (dL_ HB) hb); have n1_ := Aside0.mk (hbox); have n2_ := Aside0.mk ((dS_ hg (dL_ HB) : w.heap.size ≤ gb170)); have n3_ := Aside0.mk ((dS_ hg (dL_ HB) : w.heap.size ≤ gb170)); clear HB; have HB := n0_; have BK170 := n1_; have GW170 := n2_; have GE170 := n3_; clear n0_ n1_ n2_ n3_; clear hb hbox hg) | ((with_reducible refine gate_callee (f := 39) rfl ?_); refine goesL_ (some 13) rfl rfl Try.func39 (by kernel_rfl) rfl #[.slice A0 l0.length c0, .slice A1 l1.length c1] rfl tA_ ?_; (with_reducible refine (fleet_joined.calls k _ _ l0 _ _ l1 t171 _ ?side1 ?side2 ?side3 ?side4 A3.out).mono ?_); (case side1 => exact dC_ HR0 HB); (case side2 => exact HC0.out); (case side3 => exact dC_ HR1 HB); (case side4 => exact HC1.out); rintro e w6 ⟨rfl, hb⟩; refine ⟨_, rfl, ?_⟩; have n0_ := Aside0.mk (bb_ BK170 hb); have n1_ := Aside0.mk (below_step (dL1_ HB GE170) hb); clear BK170; clear HB; have BK170 := n0_; have HB := n1_; clear n0_ n1_; (try clear hb); (try clear hb2); (try clear hk); (try clear hi)) | ((with_reducible refine gate_dst (N := 8) rfl ?_); refine box_event ?hg (N := 8) ?hd (cs := #[.int .i64 0, .int .i64 0, .int .i64 0, .int .i64 0, .int .i64 0, .int .i64 0, .int .i64 0, .bool false]) (t := 33) ?hr ?_; (case hd => rfl); (case hg => rfl); (case hr => first | (go_simp; done) | (go_simp; rfl)); intro gb172 hg w7 hbox hb; have n0_ := Aside0.mk (bb_ BK170 hb); have n1_ := Aside0.mk (below_step (dL1_ HB GE170) hb); have n2_ := Aside0.mk (hbox); have n3_ := Aside0.mk ((dS_ hg (dL1_ HB GE170) : w.heap.size ≤ gb172)); have n4_ := Aside0.mk ((dS_ hg (dL1_ HB GE170) : w.heap.size ≤ gb172)); have n5_ := Aside0.mk ((by rw [hg]; exact Nat.ne_of_lt (blk_lt (dB_ BK170)) : gb170 ≠ gb172)); have n6_ := Aside0.mk ((by rw [hg]; exact Nat.ne_of_gt (blk_lt (dB_ BK170)) : gb172 ≠ gb170)); clear BK170; clear HB; have BK170 := n0_; have HB := n1_; have BK172 := n2_; have GW172 := n3_; have GE172 := n4_; have NB170_172 := n5_; have NB172_170 := n6_; clear n0_ n1_ n2_ n3_ n4_ n5_ n6_; clear hb hbox hg))
  go_loopg [21] k (fun kq v21 w' => ∃ (x21_1 : Int) (x173000_1 : Int) (x173001_1 : Int) (x173002_1 : Int) (x173003_1 : Int) (x173004_1 : Int) (x173005_1 : Int) (x173006_1 : Int) (x173007_1 : Bool), v21 = .int .i64 x21_1 ∧ Aside0 (fleet_Facts.l0 kq l0 l1 (l1.length : Int) x21_1 x173000_1 x173001_1 x173002_1 x173003_1 x173004_1 x173005_1 x173006_1 x173007_1 = some (r1, r2, r3, r4, r5, r6, r7, r8, r9)) ∧ Aside0 (kq ≤ k) ∧ Aside0 (w'.heap[gb170]? = some (.cells #[.int .i64 0, .int .i64 0, .int .i64 0, .int .i64 0, .int .i64 0, .int .i64 0, .int .i64 0, .bool false] 33 (0, 0))) ∧ Aside0 (w'.heap[gb172]? = some (.cells #[.int .i64 x173000_1, .int .i64 x173001_1, .int .i64 x173002_1, .int .i64 x173003_1, .int .i64 x173004_1, .int .i64 x173005_1, .int .i64 x173006_1, .bool x173007_1] 33 (0, 0))) ∧ Aside0 (Below w.heap.size w w'))
  case atStart => exact ⟨(0), (0), (0), (0), (0), (0), (0), (0), (false), tS_, H', ⟨Nat.le_refl _⟩, ⟨dB_ BK170⟩, ⟨dB_ BK172⟩, ⟨dL2_ HB GE170 GE172⟩⟩
  case round =>
   clear H'
   try clear c1
   try clear c4
   try clear c4b0
   try clear c4b1
   obtain ⟨x21_1, x173000_1, x173001_1, x173002_1, x173003_1, x173004_1, x173005_1, x173006_1, x173007_1, rfl, HA, HK1, BK170, BK172, HB⟩ := hrel
   cases gk with
   | zero => exact absurd HA.out (by simp [fleet_Facts.l0])
   | succ k1 =>
    have H := HA.out
    clear HA
    simp only [fleet_Facts.l0] at H
    by_cases c8 : x21_1 < (l1.length : Int)
    ·rw [if_pos c8] at H
     have c8b0 : decide (x21_1 < (l1.length : Int)) = true := decide_eq_true c8
     clear c8
     by_cases c9 : 0 ≤ x21_1
     ·rw [if_pos c9] at H
      have c9b0 : decide (0 ≤ x21_1) = true := decide_eq_true c9
      clear c9
      by_cases c10 : x21_1 < (l1.length : Int)
      ·rw [if_pos c10] at H
       have c10b0 : decide (x21_1 < (l1.length : Int)) = true := decide_eq_true c10
       clear c10
       by_cases c11 : 0 ≤ (rd l1 x21_1)
       ·rw [if_pos c11] at H
        have c11b0 : decide (0 ≤ (rd l1 x21_1)) = true := decide_eq_true c11
        clear c11
        by_cases c12 : (rd l1 x21_1) < (l0.length : Int)
        ·rw [if_pos c12] at H
         have c12b0 : decide ((rd l1 x21_1) < (l0.length : Int)) = true := decide_eq_true c12
         clear c12
         replace H := Option.bind_eq_some_iff.mp H
         obtain ⟨⟨t175, t176, t177, t178, t179, t180, t181, t182⟩, A130, H⟩ := H
         replace H : (fleet_Facts.l0 k1 l0 l1 (l1.length : Int) (wrap64 (x21_1 + 1)) t175 t176 t177 t178 t179 t180 t181 t182) = some (r1, r2, r3, r4, r5, r6, r7, r8, r9) := H
         have A13 := Aside0.mk A130
         clear A130
         have H' := Aside0.mk H
         clear H
         have p173 : 0 ≤ (x21_1 : Int) := of_decide_eq_true tW_
         have q173 : x21_1 < (l1.length : Int) := of_decide_eq_true tW_
         obtain ⟨ad173, e173, hx173_0⟩ := Kd.at_int HR1.out x21_1 p173 q173
         cases e173
         replace hx173_0 := bc_ HB hx173_0
         replace p173 := eq_true p173
         replace q173 := eq_true q173
         have p174 : 0 ≤ ((rd l1 x21_1) : Int) := of_decide_eq_true tW_
         have q174 : (rd l1 x21_1) < (l0.length : Int) := of_decide_eq_true tW_
         obtain ⟨ad174, e174, hx174_0, hx174_1, hx174_2, hx174_3, hx174_4, hx174_5, hx174_6, hx174_7, hx174_8, hx174_9, hx174_10, hx174_11, hx174_12, hx174_13⟩ := at_T54 HR0.out (rd l1 x21_1) p174 q174
         cases e174
         replace hx174_0 := bc_ HB hx174_0
         replace hx174_1 := bc_ HB hx174_1
         replace hx174_2 := bc_ HB hx174_2
         replace hx174_3 := bc_ HB hx174_3
         replace hx174_4 := bc_ HB hx174_4
         replace hx174_5 := bc_ HB hx174_5
         replace hx174_6 := bc_ HB hx174_6
         replace hx174_7 := bc_ HB hx174_7
         replace hx174_8 := bc_ HB hx174_8
         replace hx174_9 := bc_ HB hx174_9
         replace hx174_10 := bc_ HB hx174_10
         replace hx174_11 := bc_ HB hx174_11
         replace hx174_12 := bc_ HB hx174_12
         replace hx174_13 := bc_ HB hx174_13
         replace p174 := eq_true p174
         replace q174 := eq_true q174
         go_wp2_with (first | ((with_reducible refine gate_dst (N := 32) rfl ?_); refine methcall_event (N := 32) (t := 61) (nm := "hinterland/fleet.add") (T := 63) (rv := .agg #[.string ((rd_T54 l0 (rd l1 x21_1)).f0), .int .i64 ((rd_T54 l0 (rd l1 x21_1)).f1), .int .i64 ((rd_T54 l0 (rd l1 x21_1)).f2), .int .i64 ((rd_T54 l0 (rd l1 x21_1)).f3), .int .i64 ((rd_T54 l0 (rd l1 x21_1)).f4), .int .i64 ((rd_T54 l0 (rd l1 x21_1)).f5), .int .i64 ((rd_T54 l0 (rd l1 x21_1)).f6), .int .i64 ((rd_T54 l0 (rd l1 x21_1)).f7), .int .i64 ((rd_T54 l0 (rd l1 x21_1)).f8), .int .i64 ((rd_T54 l0 (rd l1 x21_1)).f9), .int .i64 ((rd_T54 l0 (rd l1 x21_1)).f10), .int .i64 ((rd_T54 l0 (rd l1 x21_1)).f11), .int .i64 ((rd_T54 l0 (rd l1 x21_1)).f12), .bool ((rd_T54 l0 (rd l1 x21_1)).f13)]) (pv := .pointer (some ⟨gb172, 0, none⟩)) (f := 84) rfl rfl rfl rfl rfl rfl Try.func84 (by kernel_rfl) rfl (by kernel_rfl) (meth84 _) ?_; (with_reducible refine (fleet_engine_add.calls ((rd_T54 l0 (rd l1 x21_1)).f0) ((rd_T54 l0 (rd l1 x21_1)).f1) ((rd_T54 l0 (rd l1 x21_1)).f2) ((rd_T54 l0 (rd l1 x21_1)).f3) ((rd_T54 l0 (rd l1 x21_1)).f4) ((rd_T54 l0 (rd l1 x21_1)).f5) ((rd_T54 l0 (rd l1 x21_1)).f6) ((rd_T54 l0 (rd l1 x21_1)).f7) ((rd_T54 l0 (rd l1 x21_1)).f8) ((rd_T54 l0 (rd l1 x21_1)).f9) ((rd_T54 l0 (rd l1 x21_1)).f10) ((rd_T54 l0 (rd l1 x21_1)).f11) ((rd_T54 l0 (rd l1 x21_1)).f12) ((rd_T54 l0 (rd l1 x21_1)).f13) x173000_1 x173001_1 x173002_1 x173003_1 x173004_1 x173005_1 x173006_1 x173007_1 t175 t176 t177 t178 t179 t180 t181 t182 gb172 _ (dB_ BK172) A13.out).mono ?_); rintro e w14 ⟨rfl, hbox, hoth, hbel⟩; refine ⟨_, rfl, ?_⟩; have n0_ := Aside0.mk (hoth _ _ NB170_172.out (dB_ BK170)); have n1_ := Aside0.mk (hbox); have n2_ := Aside0.mk (hbel _ _ (dL2_ HB GE170 GE172) GE172.out); clear BK170; clear BK172; clear HB; have BK170 := n0_; have BK172 := n1_; have HB := n2_; clear n0_ n1_ n2_; clear hbox hoth hbel))
         go_roundg k1
         case measure => have := HK1.out; omega
         case rel => exact ⟨(wrap64 (x21_1 + 1)), (t175), (t176), (t177), (t178), (t179), (t180), (t181), (t182), tS_, H', ⟨by have := HK1.out; omega⟩, ⟨dB_ BK170⟩, ⟨dB_ BK172⟩, ⟨dL2_ HB GE170 GE172⟩⟩
        ·rw [if_neg c12] at H
         exact absurd H (by simp)
       ·rw [if_neg c11] at H
        exact absurd H (by simp)
      ·rw [if_neg c10] at H
       exact absurd H (by simp)
     ·rw [if_neg c9] at H
      exact absurd H (by simp)
    ·rw [if_neg c8] at H
     have c8b0 : decide (x21_1 < (l1.length : Int)) = false := decide_eq_false c8
     clear c8
     by_cases c15 : x173000_1 = 0
     ·rw [if_pos c15] at H
      have c15b0 : (x173000_1 == 0) = true := beq_iff_eq.mpr c15
      have c15b1 : (x173000_1 != 0) = false := bne_eq_false_iff_eq.mpr c15
      clear c15
      simp only [Option.some.injEq, Prod.mk.injEq] at H
      obtain ⟨rfl, rfl, rfl, rfl, rfl, rfl, rfl, rfl, rfl⟩ := H
      have hnb16 := NB172_170.out
      have hnc16 := NB170_172.out
      obtain ⟨hcz17_0, hcz17_1, hcz17_2, hcz17_3, hcz17_4, hcz17_5, hcz17_6, hcz17_7, hfz17_0, hfz17_1, hfz17_2, hfz17_3, hfz17_4, hfz17_5, hfz17_6, hfz17_7⟩ := cs8_ BK172.out
      obtain ⟨hcz18_0, hcz18_1, hcz18_2, hcz18_3, hcz18_4, hcz18_5, hcz18_6, hcz18_7, hfz18_0, hfz18_1, hfz18_2, hfz18_3, hfz18_4, hfz18_5, hfz18_6, hfz18_7⟩ := cs8_ BK170.out
      go_wp2
      refine bodyPost_ret (results_ct rfl _ _ gb170 33 #[.int .i64 600, .int .i64 x173001_1, .int .i64 x173002_1, .int .i64 x173003_1, .int .i64 x173004_1, .int .i64 x173005_1, .int .i64 x173006_1, .bool x173007_1] (0, 0) _ rfl (by (with_reducible repeat (first | refine blk_drewN ?_ _ | refine blk_drew ?_ | refine blk_alloc ?_ _)); refine blk_put (cs := #[.int .i64 600, .int .i64 x173001_1, .int .i64 x173002_1, .int .i64 x173003_1, .int .i64 x173004_1, .int .i64 x173005_1, .int .i64 x173006_1, .bool false]) ?_ 7 _ rfl; (with_reducible repeat (first | refine blk_drewN ?_ _ | refine blk_drew ?_ | refine blk_alloc ?_ _)); refine blk_put (cs := #[.int .i64 600, .int .i64 x173001_1, .int .i64 x173002_1, .int .i64 x173003_1, .int .i64 x173004_1, .int .i64 x173005_1, .int .i64 0, .bool false]) ?_ 6 _ rfl; (with_reducible repeat (first | refine blk_drewN ?_ _ | refine blk_drew ?_ | refine blk_alloc ?_ _)); refine blk_put (cs := #[.int .i64 600, .int .i64 x173001_1, .int .i64 x173002_1, .int .i64 x173003_1, .int .i64 x173004_1, .int .i64 0, .int .i64 0, .bool false]) ?_ 5 _ rfl; (with_reducible repeat (first | refine blk_drewN ?_ _ | refine blk_drew ?_ | refine blk_alloc ?_ _)); refine blk_put (cs := #[.int .i64 600, .int .i64 x173001_1, .int .i64 x173002_1, .int .i64 x173003_1, .int .i64 0, .int .i64 0, .int .i64 0, .bool false]) ?_ 4 _ rfl; (with_reducible repeat (first | refine blk_drewN ?_ _ | refine blk_drew ?_ | refine blk_alloc ?_ _)); refine blk_put (cs := #[.int .i64 600, .int .i64 x173001_1, .int .i64 x173002_1, .int .i64 0, .int .i64 0, .int .i64 0, .int .i64 0, .bool false]) ?_ 3 _ rfl; (with_reducible repeat (first | refine blk_drewN ?_ _ | refine blk_drew ?_ | refine blk_alloc ?_ _)); refine blk_put (cs := #[.int .i64 600, .int .i64 x173001_1, .int .i64 0, .int .i64 0, .int .i64 0, .int .i64 0, .int .i64 0, .bool false]) ?_ 2 _ rfl; (with_reducible repeat (first | refine blk_drewN ?_ _ | refine blk_drew ?_ | refine blk_alloc ?_ _)); refine blk_put (cs := #[.int .i64 600, .int .i64 0, .int .i64 0, .int .i64 0, .int .i64 0, .int .i64 0, .int .i64 0, .bool false]) ?_ 1 _ rfl; (with_reducible repeat (first | refine blk_drewN ?_ _ | refine blk_drew ?_ | refine blk_alloc ?_ _)); refine blk_put (cs := #[.int .i64 0, .int .i64 0, .int .i64 0, .int .i64 0, .int .i64 0, .int .i64 0, .int .i64 0, .bool false]) ?_ 0 _ rfl; (with_reducible repeat (first | refine blk_drewN ?_ _ | refine blk_drew ?_ | refine blk_alloc ?_ _)); refine blk_far ?_ NB170_172.out _; (with_reducible repeat (first | refine blk_drewN ?_ _ | refine blk_drew ?_ | refine blk_alloc ?_ _)); exact BK170.out) Try.underlying33 rfl (by kernel_rfl)) rfl ?_
      exact ⟨tE_, dL2_ HB GE170 GE172⟩
     ·rw [if_neg c15] at H
      have c15b0 : (x173000_1 == 0) = false := beq_eq_false_iff_ne.mpr c15
      have c15b1 : (x173000_1 != 0) = true := bne_iff_ne.mpr c15
      simp only [Option.some.injEq, Prod.mk.injEq] at H
      obtain ⟨rfl, rfl, rfl, rfl, rfl, rfl, rfl, rfl, rfl⟩ := H
      have hnb19 := NB172_170.out
      have hnc19 := NB170_172.out
      obtain ⟨hcz20_0, hcz20_1, hcz20_2, hcz20_3, hcz20_4, hcz20_5, hcz20_6, hcz20_7, hfz20_0, hfz20_1, hfz20_2, hfz20_3, hfz20_4, hfz20_5, hfz20_6, hfz20_7⟩ := cs8_ BK172.out
      obtain ⟨hcz21_0, hcz21_1, hcz21_2, hcz21_3, hcz21_4, hcz21_5, hcz21_6, hcz21_7, hfz21_0, hfz21_1, hfz21_2, hfz21_3, hfz21_4, hfz21_5, hfz21_6, hfz21_7⟩ := cs8_ BK170.out
      go_wp2
      refine bodyPost_ret (results_ct rfl _ _ gb170 33 #[.int .i64 x173000_1, .int .i64 x173001_1, .int .i64 x173002_1, .int .i64 x173003_1, .int .i64 x173004_1, .int .i64 x173005_1, .int .i64 x173006_1, .bool x173007_1] (0, 0) _ rfl (dP8_ BK170) Try.underlying33 rfl (by kernel_rfl)) rfl ?_
      exact ⟨tE_, dL2_ HB GE170 GE172⟩
 ·rw [if_neg c4] at H
  have c4b0 : (t171 == 0) = false := beq_eq_false_iff_ne.mpr c4
  have c4b1 : (t171 != 0) = true := bne_iff_ne.mpr c4
  simp only [Option.some.injEq, Prod.mk.injEq] at H
  obtain ⟨rfl, rfl, rfl, rfl, rfl, rfl, rfl, rfl, rfl⟩ := H
  go_enter Try.func19, Try.ntmps19
  go_wp2_with (first | ((with_reducible refine gate_dst (N := 4) rfl ?_); refine box_event ?hg (N := 4) ?hd (cs := #[.int .i64 0, .int .i64 0, .int .i64 0, .int .i64 0, .int .i64 0, .int .i64 0, .int .i64 0, .bool false]) (t := 33) ?hr ?_; (case hd => rfl); (case hg => rfl); (case hr => first | (go_simp; done) | (go_simp; rfl)); intro gb170 hg w22 hbox hb; have n0_ := Aside0.mk (below_step (dL_ HB) hb); have n1_ := Aside0.mk (hbox); have n2_ := Aside0.mk ((dS_ hg (dL_ HB) : w.heap.size ≤ gb170)); have n3_ := Aside0.mk ((dS_ hg (dL_ HB) : w.heap.size ≤ gb170)); clear HB; have HB := n0_; have BK170 := n1_; have GW170 := n2_; have GE170 := n3_; clear n0_ n1_ n2_ n3_; clear hb hbox hg) | ((with_reducible refine gate_callee (f := 39) rfl ?_); refine goesL_ (some 13) rfl rfl Try.func39 (by kernel_rfl) rfl #[.slice A0 l0.length c0, .slice A1 l1.length c1] rfl tA_ ?_; (with_reducible refine (fleet_joined.calls k _ _ l0 _ _ l1 t171 _ ?side1 ?side2 ?side3 ?side4 A3.out).mono ?_); (case side1 => exact dC_ HR0 HB); (case side2 => exact HC0.out); (case side3 => exact dC_ HR1 HB); (case side4 => exact HC1.out); rintro e w23 ⟨rfl, hb⟩; refine ⟨_, rfl, ?_⟩; have n0_ := Aside0.mk (bb_ BK170 hb); have n1_ := Aside0.mk (below_step (dL1_ HB GE170) hb); clear BK170; clear HB; have BK170 := n0_; have HB := n1_; clear n0_ n1_; (try clear hb); (try clear hb2); (try clear hk); (try clear hi); obtain ⟨hcz24_0, hcz24_1, hcz24_2, hcz24_3, hcz24_4, hcz24_5, hcz24_6, hcz24_7, hfz24_0, hfz24_1, hfz24_2, hfz24_3, hfz24_4, hfz24_5, hfz24_6, hfz24_7⟩ := cs8_ BK170.out))
  refine bodyPost_ret (results_ct rfl _ _ gb170 33 #[.int .i64 0, .int .i64 0, .int .i64 0, .int .i64 0, .int .i64 0, .int .i64 0, .int .i64 0, .bool false] (0, 0) _ rfl (dP8_ BK170) Try.underlying33 rfl (by kernel_rfl)) rfl ?_
  exact ⟨tE_, dL1_ HB GE170⟩

end Go.Proofs.Ytgnahbjpockdmaa.Q
