-- PRINTED by print.py out of the translation. Not trusted: Lean checks it.
import Derived.Test.YtgnahbjpockdmaaPrs
import Derived.Test.YtgnahbjpockdmaaQ0
import Derived.Test.YtgnahbjpockdmaaQ11
import Derived.Test.YtgnahbjpockdmaaQ50
import Derived.Test.YtgnahbjpockdmaaQ53
namespace Go.Proofs.Ytgnahbjpockdmaa.Q
open Go.RowKit Go.Proofs.YtgnahbjpockdmaaPrs Go.Proofs.YtgnahbjpockdmaaOwn Go.Proofs.YtgnahbjpockdmaaW.PrintWords Go.Proofs.YtgnahbjpockdmaaW.PrintLast Go.Proofs.YtgnahbjpockdmaaW.PrintMore
open List renaming setIfInBounds_toArray → sI_, set_cons_zero → s0_, set_cons_succ → sS_
attribute [local go_sem] max2_int min2_int max_two min_two max_three min_three max_four min_four   -- for this text's walks alone
set_option linter.unusedVariables false
set_option linter.unusedSimpArgs false

/-! ### fleet_New: function 31 -/
def fleet_New.l0 : Nat → List (S54) → List Int → Int → Int → Int → Int → Int → Int → Int → Int → Int → Bool → List Int → List Int → Int → Int → Int → Int → Option (List Int × List Int × Int × Int × Int × Int × (List (S69)) × Int × Int)
  | 0, _, _, _, _, _, _, _, _, _, _, _, _, _, _, _, _, _, _ => none
  | k + 1, x0, x28, x29, x30, x498000, x498001, x498002, x498003, x498004, x498005, x498006, x498007, x503000, x503001, x503002, x503003, x503004, x503005 => if x30 < x29 then (if 0 ≤ x30 then (if x30 < (x28.length : Int) then (if 0 ≤ (rd x28 x30) then (if (rd x28 x30) < (x0.length : Int) then ((fleet_fit.f ((rd_T54 x0 (rd x28 x30)).f0) ((rd_T54 x0 (rd x28 x30)).f1) ((rd_T54 x0 (rd x28 x30)).f2) ((rd_T54 x0 (rd x28 x30)).f3) ((rd_T54 x0 (rd x28 x30)).f4) ((rd_T54 x0 (rd x28 x30)).f5) ((rd_T54 x0 (rd x28 x30)).f6) ((rd_T54 x0 (rd x28 x30)).f7) ((rd_T54 x0 (rd x28 x30)).f8) ((rd_T54 x0 (rd x28 x30)).f9) ((rd_T54 x0 (rd x28 x30)).f10) ((rd_T54 x0 (rd x28 x30)).f11) ((rd_T54 x0 (rd x28 x30)).f12) ((rd_T54 x0 (rd x28 x30)).f13)).bind fun t505 => (if x503001.length < 17592186044416 then (fleet_New.l0 k x0 x28 x29 (wrap64 (x30 + 1)) x498000 x498001 x498002 x498003 x498004 x498005 x498006 x498007 x503000 (x503001 ++ [t505]) x503002 x503003 x503004 x503005) else (none))) else (none)) else (none)) else (none)) else (none)) else (some (x503000, x503001, x503002, x503003, x503004, x503005, ([] : List (S69)), x498005, 0))
def fleet_New.f (k : Nat) (l0 : List (S54)) (l1 : List Int) : Option (List Int × List Int × Int × Int × Int × Int × (List (S69)) × Int × Int) := (fleet_Facts.f k l0 l1).bind fun bt488 => (if bt488.2.2.2.2.2.2.2.2 = 0 then (if ([] : List Int).length + l1.length < 17592186044416 then ((fleet_least_trust.f k l0 l1).bind fun t501 => (fleet_New.l0 k l0 l1 (l1.length : Int) 0 bt488.1 bt488.2.1 bt488.2.2.1 bt488.2.2.2.1 bt488.2.2.2.2.1 bt488.2.2.2.2.2.1 bt488.2.2.2.2.2.2.1 bt488.2.2.2.2.2.2.2.1 (([] : List Int) ++ l1) ([] : List Int) 0 0 t501 0)) else (none)) else (some (([] : List Int), ([] : List Int), 0, 0, 0, 0, ([] : List (S69)), 0, bt488.2.2.2.2.2.2.2.2)))
theorem fleet_New.mono_l : ∀ k, (∀ y0 y1 y2 y3 y4 y5 y6 y7 y8 y9 y10 y11 y12 y13 y14 y15 y16 y17, LeO (fleet_New.l0 k y0 y1 y2 y3 y4 y5 y6 y7 y8 y9 y10 y11 y12 y13 y14 y15 y16 y17) (fleet_New.l0 (k + 1) y0 y1 y2 y3 y4 y5 y6 y7 y8 y9 y10 y11 y12 y13 y14 y15 y16 y17))
  | 0 => fun _ _ _ _ _ _ _ _ _ _ _ _ _ _ _ _ _ _ r h => by simp [fleet_New.l0] at h
  | k + 1 => by
    have ih0 := fleet_New.mono_l k
    · intro y0 y1 y2 y3 y4 y5 y6 y7 y8 y9 y10 y11 y12 y13 y14 y15 y16 y17
      unfold fleet_New.l0
      repeat' first
      | (with_reducible exact ih0 _ _ _ _ _ _ _ _ _ _ _ _ _ _ _ _ _ _)
      | (with_reducible exact fleet_Facts.mono _ _ _)
      | (with_reducible exact fleet_least_trust.mono _ _ _)
      | (with_reducible exact LeO.refl _)
      | (with_reducible exact LeO.none _)
      | (with_reducible refine LeO.ite ?_ ?_)
      | (with_reducible refine LeO.bind ?_ (fun _ => ?_))
      | exact ih0 _ _ _ _ _ _ _ _ _ _ _ _ _ _ _ _ _ _
      | exact fleet_Facts.mono _ _ _
      | exact fleet_least_trust.mono _ _ _
      | exact LeO.none _
      | refine LeO.ite ?_ ?_
      | refine LeO.bind ?_ (fun _ => ?_)
theorem fleet_New.mono : ∀ a0 a1 k, LeO (fleet_New.f k a0 a1) (fleet_New.f (k + 1) a0 a1) := by
  intro a0 a1 k
  have ih0 := fleet_New.mono_l k
  unfold fleet_New.f
  repeat' first
      | (with_reducible exact ih0 _ _ _ _ _ _ _ _ _ _ _ _ _ _ _ _ _ _)
      | (with_reducible exact fleet_Facts.mono _ _ _)
      | (with_reducible exact fleet_least_trust.mono _ _ _)
      | (with_reducible exact LeO.refl _)
      | (with_reducible exact LeO.none _)
      | (with_reducible refine LeO.ite ?_ ?_)
      | (with_reducible refine LeO.bind ?_ (fun _ => ?_))
      | exact ih0 _ _ _ _ _ _ _ _ _ _ _ _ _ _ _ _ _ _
      | exact fleet_Facts.mono _ _ _
      | exact fleet_least_trust.mono _ _ _
      | exact LeO.none _
      | refine LeO.ite ?_ ?_
      | refine LeO.bind ?_ (fun _ => ?_)
def fleet_New.T8 : Bool × List (List Nat × List Nat) := (true, [([], []), ([0], [0]), ([], []), ([], []), ([2, 3], [2, 3]), ([4], [4]), ([5], [5]), ([6], [6]), ([1, 7, 6], [1, 7]), ([0, 1, 2, 3, 4, 5, 6, 7, 8], []), ([9, 8, 8, 0, 1, 2, 3, 4, 5, 6, 7, 8], [8, 9])])
def fleet_New.B8 : List Nat := [0, 1, 0, 0, 12, 28, 60, 124, 255, 511, 1023]
theorem fleet_New.tab8 : rtab .any (opsOf Try.f31 8) = fleet_New.T8 := by kernel_rfl
theorem fleet_New.bits8 : waitsOk fleet_New.T8.2 fleet_New.B8 = true := by kernel_rfl
set_option maxHeartbeats 8000000 in
set_option maxRecDepth 100000 in
theorem fleet_New.calls (k : Nat) (A0 : Option Addr) (c0 : Nat) (l0 : List (S54)) (A1 : Option Addr) (c1 : Nat) (l1 : List Int) (r1 : List Int) (r2 : List Int) (r3 : Int) (r4 : Int) (r5 : Int) (r6 : Int) (r7 : List (S69)) (r8 : Int) (r9 : Int) (w : World) (hr0 : Kd.C k54 w A0 l0.length l0) (hc0 : l0.length ≤ c0) (hr1 : Kd.C (Kd.int .i64) w A1 l1.length l1) (hc1 : l1.length ≤ c1) (h : fleet_New.f k l0 l1 = some (r1, r2, r3, r4, r5, r6, r7, r8, r9)) :
    Calls Try.prog 31 #[.slice A0 l0.length c0, .slice A1 l1.length c1] w fun e w' => ∃ v0_ v1_ v6_ : Value, e = .returned (.tuple #[.agg #[v0_, v1_, .int .i64 r3, .int .i64 r4, .int .i64 r5, .int .i64 r6, v6_], .int .i64 r8, .int .i64 r9]) ∧ Kd.R (Kd.int .i64) 3 w' w.heap.size (fun k_ => some k_ ≠ (v1_ : Value).ownBlock) v0_ r1 ∧ Kd.R (Kd.int .i64) 3 w' w.heap.size (fun k_ => some k_ ≠ (v0_ : Value).ownBlock) v1_ r2 ∧ Kd.R k69 69 w' w.heap.size (fun _ => True) v6_ r7 ∧ Below w.heap.size w w' := by
 have hu27 := Try.underlying27
 have hu33 := Try.underlying33
 have hu54 := Try.underlying54
 have HR0 := Aside0.mk hr0
 have HC0 := Aside0.mk hc0
 clear hr0 hc0
 have HR1 := Aside0.mk hr1
 have HC1 := Aside0.mk hc1
 clear hr1 hc1
 have HB := Aside0.mk (Below.refl w.heap.size w)
 have H : ((fleet_Facts.f k l0 l1).bind fun bt488 => (if bt488.2.2.2.2.2.2.2.2 = 0 then (if ([] : List Int).length + l1.length < 17592186044416 then ((fleet_least_trust.f k l0 l1).bind fun t501 => (fleet_New.l0 k l0 l1 (l1.length : Int) 0 bt488.1 bt488.2.1 bt488.2.2.1 bt488.2.2.2.1 bt488.2.2.2.2.1 bt488.2.2.2.2.2.1 bt488.2.2.2.2.2.2.1 bt488.2.2.2.2.2.2.2.1 (([] : List Int) ++ l1) ([] : List Int) 0 0 t501 0)) else (none)) else (some (([] : List Int), ([] : List Int), 0, 0, 0, 0, ([] : List (S69)), 0, bt488.2.2.2.2.2.2.2.2)))) = some (r1, r2, r3, r4, r5, r6, r7, r8, r9) := h
 clear h
 replace H := Option.bind_eq_some_iff.mp H
 obtain ⟨⟨t488, t489, t490, t491, t492, t493, t494, t495, t496⟩, A30, H⟩ := H
 replace H : (if t496 = 0 then (if ([] : List Int).length + l1.length < 17592186044416 then ((fleet_least_trust.f k l0 l1).bind fun t501 => (fleet_New.l0 k l0 l1 (l1.length : Int) 0 t488 t489 t490 t491 t492 t493 t494 t495 (([] : List Int) ++ l1) ([] : List Int) 0 0 t501 0)) else (none)) else (some (([] : List Int), ([] : List Int), 0, 0, 0, 0, ([] : List (S69)), 0, t496))) = some (r1, r2, r3, r4, r5, r6, r7, r8, r9) := H
 have A3 := Aside0.mk A30
 clear A30
 by_cases c4 : t496 = 0
 ·rw [if_pos c4] at H
  have c4b0 : (t496 == 0) = true := beq_iff_eq.mpr c4
  have c4b1 : (t496 != 0) = false := bne_eq_false_iff_eq.mpr c4
  clear c4
  by_cases c5 : ([] : List Int).length + l1.length < 17592186044416
  ·rw [if_pos c5] at H
   have LMc5 := Aside0.mk c5
   clear c5
   obtain ⟨y498, hy498⟩ : ∃ y_ : List Int, y_ = (([] : List Int) ++ l1) := ⟨_, rfl⟩
   replace H : ((fleet_least_trust.f k l0 l1).bind fun t501 => (fleet_New.l0 k l0 l1 (l1.length : Int) 0 t488 t489 t490 t491 t492 t493 t494 t495 y498 ([] : List Int) 0 0 t501 0)) = some (r1, r2, r3, r4, r5, r6, r7, r8, r9) := by first | (rw [hy498]; with_reducible exact H) | (have H2_ := (Option.bind_some _ _).symm.trans H; rw [hy498]; with_reducible exact H2_) | (have H2_ := (Option.bind_some _ _).symm.trans H; with_reducible exact H2_) | with_reducible exact H | (rw [hy498]; exact H) | exact H
   have Ny498 := Aside0.mk hy498
   clear hy498
   replace H := Option.bind_eq_some_iff.mp H
   obtain ⟨t501, A60, H⟩ := H
   replace H : (fleet_New.l0 k l0 l1 (l1.length : Int) 0 t488 t489 t490 t491 t492 t493 t494 t495 y498 ([] : List Int) 0 0 t501 0) = some (r1, r2, r3, r4, r5, r6, r7, r8, r9) := H
   have A6 := Aside0.mk A60
   clear A60
   have H' := Aside0.mk H
   clear H
   go_enter Try.func31, Try.ntmps31
   go_wp2_with (first | ((with_reducible refine gate_dst (N := 4) rfl ?_); refine box_event ?hg (N := 4) ?hd (cs := #[.slice none 0 0, .slice none 0 0, .int .i64 0, .int .i64 0, .int .i64 0, .int .i64 0, .slice none 0 0]) (t := 27) ?hr ?_; (case hd => rfl); (case hg => rfl); (case hr => first | (go_simp; done) | (go_simp; rfl)); intro gb487 hg w7 hbox hb; have n0_ := Aside0.mk (below_step (dL_ HB) hb); have n1_ := Aside0.mk (hbox); have n2_ := Aside0.mk ((dS_ hg (dL_ HB) : w.heap.size ≤ gb487)); have n3_ := Aside0.mk ((dS_ hg (dL_ HB) : w.heap.size ≤ gb487)); clear HB; have HB := n0_; have BK487 := n1_; have GW487 := n2_; have GE487 := n3_; clear n0_ n1_ n2_ n3_; clear hb hbox hg) | ((with_reducible refine gate_callee (f := 19) rfl ?_); refine goesL_ (some 15) rfl rfl Try.func19 (by kernel_rfl) rfl #[.slice A0 l0.length c0, .slice A1 l1.length c1] rfl tA_ ?_; (with_reducible refine (fleet_Facts.calls k _ _ l0 _ _ l1 t488 t489 t490 t491 t492 t493 t494 t495 t496 _ ?side1 ?side2 ?side3 ?side4 A3.out).mono ?_); (case side1 => exact dC_ HR0 HB); (case side2 => exact HC0.out); (case side3 => exact dC_ HR1 HB); (case side4 => exact HC1.out); rintro e w8 ⟨rfl, hb⟩; refine ⟨_, rfl, ?_⟩; have n0_ := Aside0.mk (bb_ BK487 hb); have n1_ := Aside0.mk (below_step (dL1_ HB GE487) hb); clear BK487; clear HB; have BK487 := n0_; have HB := n1_; clear n0_ n1_; (try clear hb); (try clear hb2); (try clear hk); (try clear hi)) | ((with_reducible refine gate_dst (N := 7) rfl ?_); refine box_event ?hg (N := 7) ?hd (cs := #[.int .i64 0, .int .i64 0, .int .i64 0, .int .i64 0, .int .i64 0, .int .i64 0, .int .i64 0, .bool false]) (t := 33) ?hr ?_; (case hd => rfl); (case hg => rfl); (case hr => first | (go_simp; done) | (go_simp; rfl)); intro gb497 hg w9 hbox hb; have n0_ := Aside0.mk (bb_ BK487 hb); have n1_ := Aside0.mk (below_step (dL1_ HB GE487) hb); have n2_ := Aside0.mk (hbox); have n3_ := Aside0.mk ((dS_ hg (dL1_ HB GE487) : w.heap.size ≤ gb497)); have n4_ := Aside0.mk ((dS_ hg (dL1_ HB GE487) : w.heap.size ≤ gb497)); have n5_ := Aside0.mk ((by rw [hg]; exact Nat.ne_of_lt (blk_lt (dB_ BK487)) : gb487 ≠ gb497)); have n6_ := Aside0.mk ((by rw [hg]; exact Nat.ne_of_gt (blk_lt (dB_ BK487)) : gb497 ≠ gb487)); clear BK487; clear HB; have BK487 := n0_; have HB := n1_; have BK497 := n2_; have GW497 := n3_; have GE497 := n4_; have NB487_497 := n5_; have NB497_487 := n6_; clear n0_ n1_ n2_ n3_ n4_ n5_ n6_; clear hb hbox hg; have hnb10 := NB497_487.out; have hnc10 := NB487_497.out; obtain ⟨hcz11_0, hcz11_1, hcz11_2, hcz11_3, hcz11_4, hcz11_5, hcz11_6, hcz11_7, hfz11_0, hfz11_1, hfz11_2, hfz11_3, hfz11_4, hfz11_5, hfz11_6, hfz11_7⟩ := cs8_ BK497.out) | ((with_reducible refine gate_builtin (b := .append) (xs := #[.const (.slice none 0 0), .tmp 22]) rfl ?_); at_builtin; refine Kd.R_append_rows (Kd.int .i64) (w0 := w) w.heap.size rfl (.const (.slice none 0 0)) (.tmp 22) 24 3 (.int .i64 0) 8 rfl Try.underlying24 info3 rfl (by decide) (by omega) (.slice none 0 0) ([] : List Int) l1 _ _ _ (fun _ => True) (fun _ => False) rfl rfl ?aO ?aR (fun _ _ h => h) (fun _ h => h.elim) ?aF ?aB ?aS ?aL ?_; (case aR => exact Kd.C_below HR1.out (dL2_ HB GE487 GE497)); (case aB => exact (dL2_ HB GE487 GE497)); (case aF => exact (fun _ _ => trivial)); (case aO => exact ((Kd.R_nil _ _ _ _ (fun _ => True)))); (case aS => exact (below_size (dL2_ HB GE487 GE497))); (case aL => have := LMc5.out; omega); intro v499 w12 ho hb hg hat; rw [← Ny498.out] at ho; have n0_ := Aside0.mk (blk_grown (g := gb487) (o := .cells #[.slice none 0 0, .slice none 0 0, .int .i64 0, .int .i64 0, .int .i64 0, .int .i64 0, .slice none 0 0] 27 (0, 0)) (dF8_ BK487 NB487_497) hg (by simp [Value.ownBlock])); have n1_ := Aside0.mk (blk_grown (g := gb497) (o := .cells #[.int .i64 t488, .int .i64 t489, .int .i64 t490, .int .i64 t491, .int .i64 t492, .int .i64 t493, .int .i64 t494, .bool t495] 33 (0, 0)) (dP8_ BK497) hg (by simp [Value.ownBlock])); have n2_ := Aside0.mk (hb); have n3_ := Aside0.mk (ho); clear BK487; clear BK497; clear HB; have BK487 := n0_; have BK497 := n1_; have HB := n2_; have HO500 := n3_; clear n0_ n1_ n2_ n3_; clear ho hb hg hat) | (go_at_call 47; (with_reducible refine (fleet_least_trust.calls k _ _ l0 _ _ l1 t501 _ ?side1 ?side2 ?side3 ?side4 A6.out).mono ?_); (case side1 => exact dC_ HR0 HB); (case side2 => exact HC0.out); (case side3 => exact dC_ HR1 HB); (case side4 => exact HC1.out); rintro e w13 ⟨rfl, hb⟩; have n0_ := Aside0.mk (Kd.R_below (dR_ HO500) hb); have n1_ := Aside0.mk (bb_ BK487 hb); have n2_ := Aside0.mk (bb_ BK497 hb); have n3_ := Aside0.mk (below_step (dL2_ HB GE487 GE497) hb); clear HO500; clear BK487; clear BK497; clear HB; have HO500 := n0_; have BK487 := n1_; have BK497 := n2_; have HB := n3_; clear n0_ n1_ n2_ n3_; (try clear hb); (try clear hb2); (try clear hk); (try clear hi); obtain ⟨Ao14, co14, eo14⟩ := Kd.R_slice HO500.out; subst eo14) | ((with_reducible refine gate_dst (N := 9) rfl ?_); refine box_event ?hg (N := 9) ?hd (cs := #[.slice none 0 0, .slice none 0 0, .int .i64 0, .int .i64 0, .int .i64 0, .int .i64 0, .slice none 0 0]) (t := 27) ?hr ?_; (case hd => rfl); (case hg => rfl); (case hr => first | (go_simp; done) | (go_simp; rfl)); intro gb502 hg w15 hbox hb; have n0_ := Aside0.mk (Kd.R_below (dR_ HO500) hb); have n1_ := Aside0.mk (bb_ BK487 hb); have n2_ := Aside0.mk (bb_ BK497 hb); have n3_ := Aside0.mk (below_step (dL2_ HB GE487 GE497) hb); have n4_ := Aside0.mk (hbox); have n5_ := Aside0.mk ((dS_ hg (dL2_ HB GE487 GE497) : w.heap.size ≤ gb502)); have n6_ := Aside0.mk ((dS_ hg (dL2_ HB GE487 GE497) : w.heap.size ≤ gb502)); have n7_ := Aside0.mk ((by rw [hg]; exact Nat.ne_of_lt (blk_lt (dB_ BK487)) : gb487 ≠ gb502)); have n8_ := Aside0.mk ((by rw [hg]; exact Nat.ne_of_gt (blk_lt (dB_ BK487)) : gb502 ≠ gb487)); have n9_ := Aside0.mk ((by rw [hg]; exact Nat.ne_of_lt (blk_lt (dB_ BK497)) : gb497 ≠ gb502)); have n10_ := Aside0.mk ((by rw [hg]; exact Nat.ne_of_gt (blk_lt (dB_ BK497)) : gb502 ≠ gb497)); clear HO500; clear BK487; clear BK497; clear HB; have HO500 := n0_; have BK487 := n1_; have BK497 := n2_; have HB := n3_; have BK502 := n4_; have GW502 := n5_; have GE502 := n6_; have NB487_502 := n7_; have NB502_487 := n8_; have NB497_502 := n9_; have NB502_497 := n10_; clear n0_ n1_ n2_ n3_ n4_ n5_ n6_ n7_ n8_ n9_ n10_; clear hb hbox hg; have hnb16 := NB502_487.out; have hnc16 := NB487_502.out; have hnb17 := NB502_497.out; have hnc17 := NB497_502.out; obtain ⟨hcz18_0, hcz18_1, hcz18_2, hcz18_3, hcz18_4, hcz18_5, hcz18_6, hfz18_0, hfz18_1, hfz18_2, hfz18_3, hfz18_4, hfz18_5, hfz18_6⟩ := cs7_ BK502.out))
   go_loopg [30] k (fun kq v30 w' => ∃ (x30_1 : Int) (x503001_1 : List Int) (u503001 : Value), v30 = .int .i64 x30_1 ∧ Aside0 (fleet_New.l0 kq l0 l1 (l1.length : Int) x30_1 t488 t489 t490 t491 t492 t493 t494 t495 y498 x503001_1 0 0 t501 0 = some (r1, r2, r3, r4, r5, r6, r7, r8, r9)) ∧ Aside0 (kq ≤ k) ∧ Aside0 (Kd.R (Kd.int .i64) 3 w' w.heap.size (fun k_ => some k_ ≠ (u503001 : Value).ownBlock) (.slice Ao14 y498.length co14) y498) ∧ Aside0 (Kd.R (Kd.int .i64) 3 w' w.heap.size (fun k_ => some k_ ≠ ((.slice Ao14 y498.length co14) : Value).ownBlock) u503001 x503001_1) ∧ Aside0 (w'.heap[gb487]? = some (.cells #[(.slice none 0 0), (.slice none 0 0), .int .i64 0, .int .i64 0, .int .i64 0, .int .i64 0, (.slice none 0 0)] 27 (0, 0))) ∧ Aside0 (w'.heap[gb497]? = some (.cells #[.int .i64 t488, .int .i64 t489, .int .i64 t490, .int .i64 t491, .int .i64 t492, .int .i64 t493, .int .i64 t494, .bool t495] 33 (0, 0))) ∧ Aside0 (w'.heap[gb502]? = some (.cells #[(.slice Ao14 y498.length co14), u503001, .int .i64 0, .int .i64 0, .int .i64 t501, .int .i64 0, (.slice none 0 0)] 27 (0, 0))) ∧ Aside0 (Below w.heap.size w w'))
   case atStart => exact ⟨(0), (([] : List Int)), (.slice none 0 0), tS_, H', ⟨Nat.le_refl _⟩, ⟨by (with_reducible repeat (first | apply Kd.R_alloc | apply Kd.R_drewN | apply Kd.R_drew)); exact Kd.R_mono (far7_ (Kd.R_types HO500.out BK502.out (by decide)) gb502 (fun _ hk => hk.2) (.slice Ao14 y498.length co14) (.slice none 0 0) (.int .i64 0) (.int .i64 0) (.int .i64 t501) (.int .i64 0) (.slice none 0 0)) (fun _ hk => (by simp [Value.ownBlock]))⟩, ⟨by first | exact Kd.R_nil _ _ _ _ _ | exact Kd.N_nil _ _ _ _ _ | exact Kd.V_nil _ _ _ _ _ | exact Kd.Q_nil _ _ _ _ _ | exact Kd.S_nil _ _ _ _ _⟩, ⟨dF7_ BK487 NB487_502⟩, ⟨dF7_ BK497 NB497_502⟩, ⟨dP7_ BK502⟩, ⟨dL3_ HB GE487 GE497 GE502⟩⟩
   case round =>
    clear H'
    try clear c1
    try clear c4
    try clear c4b0
    try clear c4b1
    try clear c5
    try clear hcz11_0
    try clear hcz11_1
    try clear hcz11_2
    try clear hcz11_3
    try clear hcz11_4
    try clear hcz11_5
    try clear hcz11_6
    try clear hcz11_7
    try clear hcz18_0
    try clear hcz18_1
    try clear hcz18_2
    try clear hcz18_3
    try clear hcz18_4
    try clear hcz18_5
    try clear hcz18_6
    try clear hfz11_0
    try clear hfz11_1
    try clear hfz11_2
    try clear hfz11_3
    try clear hfz11_4
    try clear hfz11_5
    try clear hfz11_6
    try clear hfz11_7
    try clear hfz18_0
    try clear hfz18_1
    try clear hfz18_2
    try clear hfz18_3
    try clear hfz18_4
    try clear hfz18_5
    try clear hfz18_6
    obtain ⟨x30_1, x503001_1, u503001, rfl, HA, HK1, HO_503000, HO_503001, BK487, BK497, BK502, HB⟩ := hrel
    cases gk with
    | zero => exact absurd HA.out (by simp [fleet_New.l0])
    | succ k1 =>
     have H := HA.out
     clear HA
     simp only [fleet_New.l0] at H
     by_cases c19 : x30_1 < (l1.length : Int)
     ·rw [if_pos c19] at H
      have c19b0 : decide (x30_1 < (l1.length : Int)) = true := decide_eq_true c19
      clear c19
      by_cases c20 : 0 ≤ x30_1
      ·rw [if_pos c20] at H
       have c20b0 : decide (0 ≤ x30_1) = true := decide_eq_true c20
       clear c20
       by_cases c21 : x30_1 < (l1.length : Int)
       ·rw [if_pos c21] at H
        have c21b0 : decide (x30_1 < (l1.length : Int)) = true := decide_eq_true c21
        clear c21
        by_cases c22 : 0 ≤ (rd l1 x30_1)
        ·rw [if_pos c22] at H
         have c22b0 : decide (0 ≤ (rd l1 x30_1)) = true := decide_eq_true c22
         clear c22
         by_cases c23 : (rd l1 x30_1) < (l0.length : Int)
         ·rw [if_pos c23] at H
          have c23b0 : decide ((rd l1 x30_1) < (l0.length : Int)) = true := decide_eq_true c23
          clear c23
          replace H := Option.bind_eq_some_iff.mp H
          obtain ⟨t505, A240, H⟩ := H
          replace H : (if x503001_1.length < 17592186044416 then (fleet_New.l0 k1 l0 l1 (l1.length : Int) (wrap64 (x30_1 + 1)) t488 t489 t490 t491 t492 t493 t494 t495 y498 (x503001_1 ++ [t505]) 0 0 t501 0) else (none)) = some (r1, r2, r3, r4, r5, r6, r7, r8, r9) := H
          have A24 := Aside0.mk A240
          clear A240
          by_cases c25 : x503001_1.length < 17592186044416
          ·rw [if_pos c25] at H
           have LMc25 := Aside0.mk c25
           clear c25
           obtain ⟨y506, hy506⟩ : ∃ y_ : List Int, y_ = (x503001_1 ++ [t505]) := ⟨_, rfl⟩
           replace H : (fleet_New.l0 k1 l0 l1 (l1.length : Int) (wrap64 (x30_1 + 1)) t488 t489 t490 t491 t492 t493 t494 t495 y498 y506 0 0 t501 0) = some (r1, r2, r3, r4, r5, r6, r7, r8, r9) := by first | (rw [hy506]; with_reducible exact H) | (have H2_ := (Option.bind_some _ _).symm.trans H; rw [hy506]; with_reducible exact H2_) | (have H2_ := (Option.bind_some _ _).symm.trans H; with_reducible exact H2_) | with_reducible exact H | (rw [hy506]; exact H) | exact H
           have Ny506 := Aside0.mk hy506
           clear hy506
           have H' := Aside0.mk H
           clear H
           have p503 : 0 ≤ (x30_1 : Int) := of_decide_eq_true tW_
           have q503 : x30_1 < (l1.length : Int) := of_decide_eq_true tW_
           obtain ⟨ad503, e503, hx503_0⟩ := Kd.at_int HR1.out x30_1 p503 q503
           cases e503
           replace hx503_0 := bc_ HB hx503_0
           replace p503 := eq_true p503
           replace q503 := eq_true q503
           try go_wp2
           have n0_ := Aside0.mk (Kd.R_drew HO_503000.out)
           have n1_ := Aside0.mk (Kd.R_drew HO_503001.out)
           have n2_ := Aside0.mk (blk_drew BK487.out)
           have n3_ := Aside0.mk (blk_drew BK497.out)
           have n4_ := Aside0.mk (blk_drew BK502.out)
           have n5_ := Aside0.mk (below_drew1 HB.out)
           clear HO_503000
           clear HO_503001
           clear BK487
           clear BK497
           clear BK502
           clear HB
           have HO_503000 := n0_
           have HO_503001 := n1_
           have BK487 := n2_
           have BK497 := n3_
           have BK502 := n4_
           have HB := n5_
           clear n0_ n1_ n2_ n3_ n4_ n5_
           have p504 : 0 ≤ ((rd l1 x30_1) : Int) := of_decide_eq_true tW_
           have q504 : (rd l1 x30_1) < (l0.length : Int) := of_decide_eq_true tW_
           obtain ⟨ad504, e504, hx504_0, hx504_1, hx504_2, hx504_3, hx504_4, hx504_5, hx504_6, hx504_7, hx504_8, hx504_9, hx504_10, hx504_11, hx504_12, hx504_13⟩ := at_T54 HR0.out (rd l1 x30_1) p504 q504
           have hw504_13 := hx504_13
           have hw504_12 := hx504_12
           have hw504_11 := hx504_11
           have hw504_10 := hx504_10
           have hw504_9 := hx504_9
           have hw504_8 := hx504_8
           have hw504_7 := hx504_7
           have hw504_6 := hx504_6
           have hw504_5 := hx504_5
           have hw504_4 := hx504_4
           have hw504_3 := hx504_3
           have hw504_2 := hx504_2
           have hw504_1 := hx504_1
           have hw504_0 := hx504_0
           cases e504
           replace hx504_0 := bc_ HB hx504_0
           replace hx504_1 := bc_ HB hx504_1
           replace hx504_2 := bc_ HB hx504_2
           replace hx504_3 := bc_ HB hx504_3
           replace hx504_4 := bc_ HB hx504_4
           replace hx504_5 := bc_ HB hx504_5
           replace hx504_6 := bc_ HB hx504_6
           replace hx504_7 := bc_ HB hx504_7
           replace hx504_8 := bc_ HB hx504_8
           replace hx504_9 := bc_ HB hx504_9
           replace hx504_10 := bc_ HB hx504_10
           replace hx504_11 := bc_ HB hx504_11
           replace hx504_12 := bc_ HB hx504_12
           replace hx504_13 := bc_ HB hx504_13
           replace p504 := eq_true p504
           replace q504 := eq_true q504
           refine start_ (n := 11) (S := fun w' => w'.cell? ⟨gb502, 0, none⟩ = some (.slice Ao14 y498.length co14) ∧ w'.cell? ⟨gb502, 1, none⟩ = some (u503001) ∧ w'.cell? ⟨gb502, 2, none⟩ = some (.int .i64 0) ∧ w'.cell? ⟨gb502, 3, none⟩ = some (.int .i64 0) ∧ w'.cell? ⟨gb502, 4, none⟩ = some (.int .i64 t501) ∧ w'.cell? ⟨gb502, 5, none⟩ = some (.int .i64 0) ∧ w'.cell? ⟨gb502, 6, none⟩ = some (.slice none 0 0) ∧ w'.cell? (ad504.add (((rd l1 x30_1)).toNat * 14)) = some (.string ((rd_T54 l0 (rd l1 x30_1)).f0)) ∧ w'.cell? ⟨(ad504.add (((rd l1 x30_1)).toNat * 14)).block, (ad504.add (((rd l1 x30_1)).toNat * 14)).off + 1, none⟩ = some (.int .i64 ((rd_T54 l0 (rd l1 x30_1)).f1)) ∧ w'.cell? ⟨(ad504.add (((rd l1 x30_1)).toNat * 14)).block, (ad504.add (((rd l1 x30_1)).toNat * 14)).off + 2, none⟩ = some (.int .i64 ((rd_T54 l0 (rd l1 x30_1)).f2)) ∧ w'.cell? ⟨(ad504.add (((rd l1 x30_1)).toNat * 14)).block, (ad504.add (((rd l1 x30_1)).toNat * 14)).off + 3, none⟩ = some (.int .i64 ((rd_T54 l0 (rd l1 x30_1)).f3)) ∧ w'.cell? ⟨(ad504.add (((rd l1 x30_1)).toNat * 14)).block, (ad504.add (((rd l1 x30_1)).toNat * 14)).off + 4, none⟩ = some (.int .i64 ((rd_T54 l0 (rd l1 x30_1)).f4)) ∧ w'.cell? ⟨(ad504.add (((rd l1 x30_1)).toNat * 14)).block, (ad504.add (((rd l1 x30_1)).toNat * 14)).off + 5, none⟩ = some (.int .i64 ((rd_T54 l0 (rd l1 x30_1)).f5)) ∧ w'.cell? ⟨(ad504.add (((rd l1 x30_1)).toNat * 14)).block, (ad504.add (((rd l1 x30_1)).toNat * 14)).off + 6, none⟩ = some (.int .i64 ((rd_T54 l0 (rd l1 x30_1)).f6)) ∧ w'.cell? ⟨(ad504.add (((rd l1 x30_1)).toNat * 14)).block, (ad504.add (((rd l1 x30_1)).toNat * 14)).off + 7, none⟩ = some (.int .i64 ((rd_T54 l0 (rd l1 x30_1)).f7)) ∧ w'.cell? ⟨(ad504.add (((rd l1 x30_1)).toNat * 14)).block, (ad504.add (((rd l1 x30_1)).toNat * 14)).off + 8, none⟩ = some (.int .i64 ((rd_T54 l0 (rd l1 x30_1)).f8)) ∧ w'.cell? ⟨(ad504.add (((rd l1 x30_1)).toNat * 14)).block, (ad504.add (((rd l1 x30_1)).toNat * 14)).off + 9, none⟩ = some (.int .i64 ((rd_T54 l0 (rd l1 x30_1)).f9)) ∧ w'.cell? ⟨(ad504.add (((rd l1 x30_1)).toNat * 14)).block, (ad504.add (((rd l1 x30_1)).toNat * 14)).off + 10, none⟩ = some (.int .i64 ((rd_T54 l0 (rd l1 x30_1)).f10)) ∧ w'.cell? ⟨(ad504.add (((rd l1 x30_1)).toNat * 14)).block, (ad504.add (((rd l1 x30_1)).toNat * 14)).off + 11, none⟩ = some (.int .i64 ((rd_T54 l0 (rd l1 x30_1)).f11)) ∧ w'.cell? ⟨(ad504.add (((rd l1 x30_1)).toNat * 14)).block, (ad504.add (((rd l1 x30_1)).toNat * 14)).off + 12, none⟩ = some (.int .i64 ((rd_T54 l0 (rd l1 x30_1)).f12)) ∧ w'.cell? ⟨(ad504.add (((rd l1 x30_1)).toNat * 14)).block, (ad504.add (((rd l1 x30_1)).toNat * 14)).off + 13, none⟩ = some (.bool ((rd_T54 l0 (rd l1 x30_1)).f13))) (ds := [10]) #[false, false, false, false, false, false, false, false, false, false, false] (by kernel_rfl) rfl rfl ⟨(blk_cell BK502.out 0).trans rfl, (blk_cell BK502.out 1).trans rfl, (blk_cell BK502.out 2).trans rfl, (blk_cell BK502.out 3).trans rfl, (blk_cell BK502.out 4).trans rfl, (blk_cell BK502.out 5).trans rfl, (blk_cell BK502.out 6).trans rfl, ((HB.out.cell (World.block_lt_of_cell? w _ hw504_0)).trans hw504_0), ((HB.out.cell (World.block_lt_of_cell? w _ hw504_1)).trans hw504_1), ((HB.out.cell (World.block_lt_of_cell? w _ hw504_2)).trans hw504_2), ((HB.out.cell (World.block_lt_of_cell? w _ hw504_3)).trans hw504_3), ((HB.out.cell (World.block_lt_of_cell? w _ hw504_4)).trans hw504_4), ((HB.out.cell (World.block_lt_of_cell? w _ hw504_5)).trans hw504_5), ((HB.out.cell (World.block_lt_of_cell? w _ hw504_6)).trans hw504_6), ((HB.out.cell (World.block_lt_of_cell? w _ hw504_7)).trans hw504_7), ((HB.out.cell (World.block_lt_of_cell? w _ hw504_8)).trans hw504_8), ((HB.out.cell (World.block_lt_of_cell? w _ hw504_9)).trans hw504_9), ((HB.out.cell (World.block_lt_of_cell? w _ hw504_10)).trans hw504_10), ((HB.out.cell (World.block_lt_of_cell? w _ hw504_11)).trans hw504_11), ((HB.out.cell (World.block_lt_of_cell? w _ hw504_12)).trans hw504_12), ((HB.out.cell (World.block_lt_of_cell? w _ hw504_13)).trans hw504_13)⟩ (fun hHeld => ?_); refine with_tabW fleet_New.tab8 fleet_New.bits8 (fun HT_ HW_ => ?_)
           generalize wr.drew = w26 at HO_503000 HO_503001 BK487 BK497 BK502 HB hx504_0 hx504_1 hx504_10 hx504_11 hx504_12 hx504_13 hx504_2 hx504_3 hx504_4 hx504_5 hx504_6 hx504_7 hx504_8 hx504_9 hHeld ⊢
           refine pure_ (i := 0) (N := some 34) (v := ?_) (a' := ?_) #[true, false, false, false, false, false, false, false, false, false, false] rfl rfl (any_of HT_.out (by kernel_rfl)) (fun _ _ _ h => h) (Or.inl ⟨by rfl, ?_⟩) ?_ ?_
           rotate_left
           ·intro w'
            go_simp
            with_reducible rfl
           rotate_left
           ·simp only [Act.put, sI_, s0_, sS_, i64_w, i32_w]
            rfl
           refine pure_ (i := 2) (N := some 36) (v := ?_) (a' := ?_) #[true, false, true, false, false, false, false, false, false, false, false] rfl rfl (any_of HT_.out (by kernel_rfl)) (fun _ _ _ h => h) (Or.inl ⟨by rfl, ?_⟩) ?_ ?_
           rotate_left
           ·intro w'
            go_simp
            with_reducible rfl
           rotate_left
           ·simp only [Act.put, sI_, s0_, sS_, i64_w, i32_w]
            rfl
           refine pure_ (i := 3) (N := some 37) (v := ?_) (a' := ?_) #[true, false, true, true, false, false, false, false, false, false, false] rfl rfl (any_of HT_.out (by kernel_rfl)) (fun _ _ _ h => h) (Or.inl ⟨by rfl, ?_⟩) ?_ ?_
           rotate_left
           ·intro w'
            go_simp
            with_reducible rfl
           rotate_left
           ·simp only [Act.put, sI_, s0_, sS_, i64_w, i32_w]
            rfl
           refine pure_ (i := 4) (N := some 38) (v := ?_) (a' := ?_) #[true, false, true, true, true, false, false, false, false, false, false] rfl rfl (any_of HT_.out (by kernel_rfl)) (fun _ _ _ h => h) (Or.inl ⟨by rfl, ?_⟩) ?_ ?_
           rotate_left
           ·intro w'
            go_simp
            with_reducible rfl
           rotate_left
           ·simp only [Act.put, sI_, s0_, sS_, i64_w, i32_w]
            rfl
           refine take_ (i := 1) (N := some 35) (v := ?_) (a' := ?_) #[true, true, true, true, true, false, false, false, false, false, false] rfl rfl (take_ofW HT_.out HW_.out (by kernel_rfl)) (fun _ _ _ h => h) (Or.inl ⟨by rfl, ?_⟩) hHeld ?_ ?_
           rotate_left
           ·rintro w' ⟨s0, s1, s2, s3, s4, s5, s6, s7, s8, s9, s10, s11, s12, s13, s14, s15, s16, s17, s18, s19, s20⟩
            go_simp
            with_reducible rfl
           rotate_left
           ·simp only [Act.put, sI_, s0_, sS_, i64_w, i32_w]
            rfl
           refine take_ (i := 5) (N := some 39) (v := ?_) (a' := ?_) #[true, true, true, true, true, true, false, false, false, false, false] rfl rfl (take_ofW HT_.out HW_.out (by kernel_rfl)) (fun _ _ _ h => h) (Or.inl ⟨by rfl, ?_⟩) hHeld ?_ ?_
           rotate_left
           ·rintro w' ⟨s0, s1, s2, s3, s4, s5, s6, s7, s8, s9, s10, s11, s12, s13, s14, s15, s16, s17, s18, s19, s20⟩
            go_simp
            with_reducible rfl
           rotate_left
           ·simp only [Act.put, sI_, s0_, sS_, i64_w, i32_w]
            rfl
           refine one_ (i := 6) (N := some 40) #[true, true, true, true, true, true, true, false, false, false, false] rfl rfl (one_of HT_.out (by kernel_rfl)) (by decide) (fun K hK => ?_)
           refine goes_ Try.func49 (by kernel_rfl) rfl #[.agg #[.string ((rd_T54 l0 (rd l1 x30_1)).f0), .int .i64 ((rd_T54 l0 (rd l1 x30_1)).f1), .int .i64 ((rd_T54 l0 (rd l1 x30_1)).f2), .int .i64 ((rd_T54 l0 (rd l1 x30_1)).f3), .int .i64 ((rd_T54 l0 (rd l1 x30_1)).f4), .int .i64 ((rd_T54 l0 (rd l1 x30_1)).f5), .int .i64 ((rd_T54 l0 (rd l1 x30_1)).f6), .int .i64 ((rd_T54 l0 (rd l1 x30_1)).f7), .int .i64 ((rd_T54 l0 (rd l1 x30_1)).f8), .int .i64 ((rd_T54 l0 (rd l1 x30_1)).f9), .int .i64 ((rd_T54 l0 (rd l1 x30_1)).f10), .int .i64 ((rd_T54 l0 (rd l1 x30_1)).f11), .int .i64 ((rd_T54 l0 (rd l1 x30_1)).f12), .bool ((rd_T54 l0 (rd l1 x30_1)).f13)]] (by rfl) rfl rfl tA_ ?_
           with_reducible refine (fleet_fit.calls ((rd_T54 l0 (rd l1 x30_1)).f0) ((rd_T54 l0 (rd l1 x30_1)).f1) ((rd_T54 l0 (rd l1 x30_1)).f2) ((rd_T54 l0 (rd l1 x30_1)).f3) ((rd_T54 l0 (rd l1 x30_1)).f4) ((rd_T54 l0 (rd l1 x30_1)).f5) ((rd_T54 l0 (rd l1 x30_1)).f6) ((rd_T54 l0 (rd l1 x30_1)).f7) ((rd_T54 l0 (rd l1 x30_1)).f8) ((rd_T54 l0 (rd l1 x30_1)).f9) ((rd_T54 l0 (rd l1 x30_1)).f10) ((rd_T54 l0 (rd l1 x30_1)).f11) ((rd_T54 l0 (rd l1 x30_1)).f12) ((rd_T54 l0 (rd l1 x30_1)).f13) t505 _ A24.out).mono ?_
           rintro e w27 ⟨rfl, hb⟩
           refine ⟨_, rfl, ?_⟩
           have n0_ := Aside0.mk (Kd.R_below (dR_ HO_503000) hb)
           have n1_ := Aside0.mk (Kd.R_below (dR_ HO_503001) hb)
           have n2_ := Aside0.mk (bb_ BK487 hb)
           have n3_ := Aside0.mk (bb_ BK497 hb)
           have n4_ := Aside0.mk (bb_ BK502 hb)
           have n5_ := Aside0.mk (below_step (dL3_ HB GE487 GE497 GE502) hb)
           clear HO_503000
           clear HO_503001
           clear BK487
           clear BK497
           clear BK502
           clear HB
           have HO_503000 := n0_
           have HO_503001 := n1_
           have BK487 := n2_
           have BK497 := n3_
           have BK502 := n4_
           have HB := n5_
           clear n0_ n1_ n2_ n3_ n4_ n5_
           (try clear hb)
           (try clear hb2)
           (try clear hk)
           (try clear hi)
           refine hK.out _ _ ⟨(blk_cell BK502.out 0).trans rfl, (blk_cell BK502.out 1).trans rfl, (blk_cell BK502.out 2).trans rfl, (blk_cell BK502.out 3).trans rfl, (blk_cell BK502.out 4).trans rfl, (blk_cell BK502.out 5).trans rfl, (blk_cell BK502.out 6).trans rfl, ((HB.out.cell (World.block_lt_of_cell? w _ hw504_0)).trans hw504_0), ((HB.out.cell (World.block_lt_of_cell? w _ hw504_1)).trans hw504_1), ((HB.out.cell (World.block_lt_of_cell? w _ hw504_2)).trans hw504_2), ((HB.out.cell (World.block_lt_of_cell? w _ hw504_3)).trans hw504_3), ((HB.out.cell (World.block_lt_of_cell? w _ hw504_4)).trans hw504_4), ((HB.out.cell (World.block_lt_of_cell? w _ hw504_5)).trans hw504_5), ((HB.out.cell (World.block_lt_of_cell? w _ hw504_6)).trans hw504_6), ((HB.out.cell (World.block_lt_of_cell? w _ hw504_7)).trans hw504_7), ((HB.out.cell (World.block_lt_of_cell? w _ hw504_8)).trans hw504_8), ((HB.out.cell (World.block_lt_of_cell? w _ hw504_9)).trans hw504_9), ((HB.out.cell (World.block_lt_of_cell? w _ hw504_10)).trans hw504_10), ((HB.out.cell (World.block_lt_of_cell? w _ hw504_11)).trans hw504_11), ((HB.out.cell (World.block_lt_of_cell? w _ hw504_12)).trans hw504_12), ((HB.out.cell (World.block_lt_of_cell? w _ hw504_13)).trans hw504_13)⟩ (fun hHeld => ?_)
           clear hK K
           refine norm_ (a' := ?_) ?_ ?_
           rotate_left
           ·show Act.put _ (some 40) _ = _
            simp only [Act.put, sI_, s0_, sS_, i64_w, i32_w]
            rfl
           refine one_ (i := 7) (N := some 41) #[true, true, true, true, true, true, true, true, false, false, false] rfl rfl (one_of HT_.out (by kernel_rfl)) (by decide) (fun K hK => ?_)
           refine value_ (w1 := ?_) (v := ?_) (by rfl) rfl ?_ ?_
           rotate_left 2
           ·go_simp
            constructor
            ·rfl
            ·rfl
           refine hK.out _ _ ⟨(blk_cell (blk_alloc BK502.out _) 0).trans rfl, (blk_cell (blk_alloc BK502.out _) 1).trans rfl, (blk_cell (blk_alloc BK502.out _) 2).trans rfl, (blk_cell (blk_alloc BK502.out _) 3).trans rfl, (blk_cell (blk_alloc BK502.out _) 4).trans rfl, (blk_cell (blk_alloc BK502.out _) 5).trans rfl, (blk_cell (blk_alloc BK502.out _) 6).trans rfl, (World.cell?_alloc_lt _ _ _ (World.block_lt_of_cell? _ _ (((HB.out.cell (World.block_lt_of_cell? w _ hw504_0)).trans hw504_0)))).trans (((HB.out.cell (World.block_lt_of_cell? w _ hw504_0)).trans hw504_0)), (World.cell?_alloc_lt _ _ _ (World.block_lt_of_cell? _ _ (((HB.out.cell (World.block_lt_of_cell? w _ hw504_1)).trans hw504_1)))).trans (((HB.out.cell (World.block_lt_of_cell? w _ hw504_1)).trans hw504_1)), (World.cell?_alloc_lt _ _ _ (World.block_lt_of_cell? _ _ (((HB.out.cell (World.block_lt_of_cell? w _ hw504_2)).trans hw504_2)))).trans (((HB.out.cell (World.block_lt_of_cell? w _ hw504_2)).trans hw504_2)), (World.cell?_alloc_lt _ _ _ (World.block_lt_of_cell? _ _ (((HB.out.cell (World.block_lt_of_cell? w _ hw504_3)).trans hw504_3)))).trans (((HB.out.cell (World.block_lt_of_cell? w _ hw504_3)).trans hw504_3)), (World.cell?_alloc_lt _ _ _ (World.block_lt_of_cell? _ _ (((HB.out.cell (World.block_lt_of_cell? w _ hw504_4)).trans hw504_4)))).trans (((HB.out.cell (World.block_lt_of_cell? w _ hw504_4)).trans hw504_4)), (World.cell?_alloc_lt _ _ _ (World.block_lt_of_cell? _ _ (((HB.out.cell (World.block_lt_of_cell? w _ hw504_5)).trans hw504_5)))).trans (((HB.out.cell (World.block_lt_of_cell? w _ hw504_5)).trans hw504_5)), (World.cell?_alloc_lt _ _ _ (World.block_lt_of_cell? _ _ (((HB.out.cell (World.block_lt_of_cell? w _ hw504_6)).trans hw504_6)))).trans (((HB.out.cell (World.block_lt_of_cell? w _ hw504_6)).trans hw504_6)), (World.cell?_alloc_lt _ _ _ (World.block_lt_of_cell? _ _ (((HB.out.cell (World.block_lt_of_cell? w _ hw504_7)).trans hw504_7)))).trans (((HB.out.cell (World.block_lt_of_cell? w _ hw504_7)).trans hw504_7)), (World.cell?_alloc_lt _ _ _ (World.block_lt_of_cell? _ _ (((HB.out.cell (World.block_lt_of_cell? w _ hw504_8)).trans hw504_8)))).trans (((HB.out.cell (World.block_lt_of_cell? w _ hw504_8)).trans hw504_8)), (World.cell?_alloc_lt _ _ _ (World.block_lt_of_cell? _ _ (((HB.out.cell (World.block_lt_of_cell? w _ hw504_9)).trans hw504_9)))).trans (((HB.out.cell (World.block_lt_of_cell? w _ hw504_9)).trans hw504_9)), (World.cell?_alloc_lt _ _ _ (World.block_lt_of_cell? _ _ (((HB.out.cell (World.block_lt_of_cell? w _ hw504_10)).trans hw504_10)))).trans (((HB.out.cell (World.block_lt_of_cell? w _ hw504_10)).trans hw504_10)), (World.cell?_alloc_lt _ _ _ (World.block_lt_of_cell? _ _ (((HB.out.cell (World.block_lt_of_cell? w _ hw504_11)).trans hw504_11)))).trans (((HB.out.cell (World.block_lt_of_cell? w _ hw504_11)).trans hw504_11)), (World.cell?_alloc_lt _ _ _ (World.block_lt_of_cell? _ _ (((HB.out.cell (World.block_lt_of_cell? w _ hw504_12)).trans hw504_12)))).trans (((HB.out.cell (World.block_lt_of_cell? w _ hw504_12)).trans hw504_12)), (World.cell?_alloc_lt _ _ _ (World.block_lt_of_cell? _ _ (((HB.out.cell (World.block_lt_of_cell? w _ hw504_13)).trans hw504_13)))).trans (((HB.out.cell (World.block_lt_of_cell? w _ hw504_13)).trans hw504_13))⟩ (fun hHeld => ?_)
           clear hK K
           refine norm_ (a' := ?_) ?_ ?_
           rotate_left
           ·show Act.put _ (some 41) _ = _
            simp only [Act.put, sI_, s0_, sS_, i64_w, i32_w]
            rfl
           refine one_ (i := 8) (N := some 42) #[true, true, true, true, true, true, true, true, true, false, false] rfl rfl (one_of HT_.out (by kernel_rfl)) (by decide) (fun K hK => ?_)
           refine Kd.R_append_step (Kd.int .i64) (w0 := w) w.heap.size (by rfl) (.tmp 35) (.tmp 41) 24 3 (.int .i64 0) 8 rfl Try.underlying24 info3 rfl (by decide) (by omega) u503001 x503001_1 t505 [.int .i64 t505] (fun k_ => some k_ ≠ (.slice Ao14 y498.length co14 : Value).ownBlock) (fun _ => False) rfl rfl ?aP (fun _ hk => hk.elim) ?aF ?aO ?aB ?aS ?aL ?_
           (case aP => exact rfl)
           (case aB => exact (dL3_ HB GE487 GE497 GE502))
           (case aF => exact (fun k_ hk => Kd.fresh' (Kd.R_lt (dR_ HO_503000)) k_ hk))
           (case aO => exact (dR_ HO_503001))
           (case aS => exact (below_size (dL3_ HB GE487 GE497 GE502)))
           (case aL => have := LMc25.out; omega)
           intro v507 w28 ho hb hg hat
           rw [← Ny506.out] at ho
           have n0_ := Aside0.mk (Kd.R_after (ok := (fun _ => True)) (by (with_reducible repeat (first | apply Kd.R_alloc | apply Kd.R_drewN | apply Kd.R_drew)); exact Kd.R_mono HO_503000.out (fun _ hk => ⟨trivial, hk⟩)) hg hat)
           have n1_ := Aside0.mk (blk_grown (g := gb487) (o := .cells #[.slice none 0 0, .slice none 0 0, .int .i64 0, .int .i64 0, .int .i64 0, .int .i64 0, .slice none 0 0] 27 (0, 0)) (dB_ BK487) hg (Kd.R_ne HO_503001.out BK487.out (by decide)))
           have n2_ := Aside0.mk (blk_grown (g := gb497) (o := .cells #[.int .i64 t488, .int .i64 t489, .int .i64 t490, .int .i64 t491, .int .i64 t492, .int .i64 t493, .int .i64 t494, .bool t495] 33 (0, 0)) (dB_ BK497) hg (Kd.R_ne HO_503001.out BK497.out (by decide)))
           have n3_ := Aside0.mk (blk_grown (g := gb502) (o := .cells #[.slice Ao14 y498.length co14, u503001, .int .i64 0, .int .i64 0, .int .i64 t501, .int .i64 0, .slice none 0 0] 27 (0, 0)) (dB_ BK502) hg (Kd.R_ne HO_503001.out BK502.out (by decide)))
           have n4_ := Aside0.mk (hb)
           have n5_ := Aside0.mk (ho)
           clear HO_503000
           clear BK487
           clear BK497
           clear BK502
           clear HB
           clear HO_503001
           have HO_503000 := n0_
           have BK487 := n1_
           have BK497 := n2_
           have BK502 := n3_
           have HB := n4_
           have HO508 := n5_
           clear n0_ n1_ n2_ n3_ n4_ n5_
           clear ho hb hg hat
           obtain ⟨Ao29, co29, eo29⟩ := Kd.R_slice HO508.out
           (first | subst eo29 | (injection eo29 with f1_ f2_ f3_; have f4_ := f1_.symm; have f5_ := f3_.symm; clear f1_ f2_ f3_; subst f4_; subst f5_))
           refine hK.out _ _ ⟨(blk_cell BK502.out 0).trans rfl, (blk_cell BK502.out 1).trans rfl, (blk_cell BK502.out 2).trans rfl, (blk_cell BK502.out 3).trans rfl, (blk_cell BK502.out 4).trans rfl, (blk_cell BK502.out 5).trans rfl, (blk_cell BK502.out 6).trans rfl, ((HB.out.cell (World.block_lt_of_cell? w _ hw504_0)).trans hw504_0), ((HB.out.cell (World.block_lt_of_cell? w _ hw504_1)).trans hw504_1), ((HB.out.cell (World.block_lt_of_cell? w _ hw504_2)).trans hw504_2), ((HB.out.cell (World.block_lt_of_cell? w _ hw504_3)).trans hw504_3), ((HB.out.cell (World.block_lt_of_cell? w _ hw504_4)).trans hw504_4), ((HB.out.cell (World.block_lt_of_cell? w _ hw504_5)).trans hw504_5), ((HB.out.cell (World.block_lt_of_cell? w _ hw504_6)).trans hw504_6), ((HB.out.cell (World.block_lt_of_cell? w _ hw504_7)).trans hw504_7), ((HB.out.cell (World.block_lt_of_cell? w _ hw504_8)).trans hw504_8), ((HB.out.cell (World.block_lt_of_cell? w _ hw504_9)).trans hw504_9), ((HB.out.cell (World.block_lt_of_cell? w _ hw504_10)).trans hw504_10), ((HB.out.cell (World.block_lt_of_cell? w _ hw504_11)).trans hw504_11), ((HB.out.cell (World.block_lt_of_cell? w _ hw504_12)).trans hw504_12), ((HB.out.cell (World.block_lt_of_cell? w _ hw504_13)).trans hw504_13)⟩ (fun hHeld => ?_)
           clear hK K
           refine norm_ (a' := ?_) ?_ ?_
           rotate_left
           ·show Act.put _ (some 42) _ = _
            simp only [Act.put, sI_, s0_, sS_, i64_w, i32_w]
            rfl
           refine pure_ (i := 9) (N := some 43) (v := ?_) (a' := ?_) #[true, true, true, true, true, true, true, true, true, true, false] rfl rfl (any_of HT_.out (by kernel_rfl)) (fun _ _ _ h => h) (Or.inl ⟨by rfl, ?_⟩) ?_ ?_
           rotate_left
           ·intro w'
            go_simp
            with_reducible rfl
           rotate_left
           ·simp only [Act.put, sI_, s0_, sS_, i64_w, i32_w]
            rfl
           refine last_ (i := 10) (N := none) #[true, true, true, true, true, true, true, true, true, true, true] rfl rfl (one_of HT_.out (by kernel_rfl)) (by decide) (fun K hK => ?_)
           have hs30 : w28.cell? ⟨gb502, 1, none⟩ = some (u503001) := (blk_cell BK502.out 1).trans rfl
           have hfs30 := blk_frozen BK502.out 1
           have hns30_0 := NB487_502.out
           have hns30_1 := NB497_502.out
           have hms30_0 := NB502_487.out
           have hms30_1 := NB502_497.out
           refine skip_ (w1 := ?_) (by rfl) rfl ?_ ?_
           rotate_left
           ·go_simp
            rfl
           refine hK.out _ _ ?_
           clear hK K
           refine done_ (done_of HT_.out (by kernel_rfl)) ?_
           try go_wp2
           go_roundg k1
           case measure => have := HK1.out; omega
           case rel => exact ⟨(wrap64 (x30_1 + 1)), (y506), (.slice Ao29 y506.length co29), tS_, H', ⟨by have := HK1.out; omega⟩, ⟨by (with_reducible repeat (first | apply Kd.R_alloc | apply Kd.R_drewN | apply Kd.R_drew)); exact Kd.R_mono (Kd.R_far (p := ⟨gb502, 1, none⟩) (Kd.R_types HO_503000.out BK502.out (by decide)) (fun _ hk => hk.2) (.slice Ao29 y506.length co29)) (fun _ hk => hk.1.2)⟩, ⟨by (with_reducible repeat (first | apply Kd.R_alloc | apply Kd.R_drewN | apply Kd.R_drew)); exact Kd.R_mono (Kd.R_far (p := ⟨gb502, 1, none⟩) (Kd.R_types HO508.out BK502.out (by decide)) (fun _ hk => hk.2) (.slice Ao29 y506.length co29)) (fun _ hk => hk.1)⟩, ⟨by (with_reducible repeat (first | refine blk_drewN ?_ _ | refine blk_drew ?_ | refine blk_alloc ?_ _)); refine blk_far ?_ NB487_502.out _; (with_reducible repeat (first | refine blk_drewN ?_ _ | refine blk_drew ?_ | refine blk_alloc ?_ _)); exact BK487.out⟩, ⟨by (with_reducible repeat (first | refine blk_drewN ?_ _ | refine blk_drew ?_ | refine blk_alloc ?_ _)); refine blk_far ?_ NB497_502.out _; (with_reducible repeat (first | refine blk_drewN ?_ _ | refine blk_drew ?_ | refine blk_alloc ?_ _)); exact BK497.out⟩, ⟨by (with_reducible repeat (first | refine blk_drewN ?_ _ | refine blk_drew ?_ | refine blk_alloc ?_ _)); refine blk_put (cs := #[.slice Ao14 y498.length co14, u503001, .int .i64 0, .int .i64 0, .int .i64 t501, .int .i64 0, .slice none 0 0]) ?_ 1 _ rfl; (with_reducible repeat (first | refine blk_drewN ?_ _ | refine blk_drew ?_ | refine blk_alloc ?_ _)); exact BK502.out⟩, ⟨dL3_ HB GE487 GE497 GE502⟩⟩
          ·rw [if_neg c25] at H
           exact absurd H (by simp)
         ·rw [if_neg c23] at H
          exact absurd H (by simp)
        ·rw [if_neg c22] at H
         exact absurd H (by simp)
       ·rw [if_neg c21] at H
        exact absurd H (by simp)
      ·rw [if_neg c20] at H
       exact absurd H (by simp)
     ·rw [if_neg c19] at H
      have c19b0 : decide (x30_1 < (l1.length : Int)) = false := decide_eq_false c19
      clear c19
      simp only [Option.some.injEq, Prod.mk.injEq] at H
      obtain ⟨rfl, rfl, rfl, rfl, rfl, rfl, rfl, rfl, rfl⟩ := H
      try go_wp2
      have n0_ := Aside0.mk (Kd.R_drew HO_503000.out)
      have n1_ := Aside0.mk (Kd.R_drew HO_503001.out)
      have n2_ := Aside0.mk (blk_drew BK487.out)
      have n3_ := Aside0.mk (blk_drew BK497.out)
      have n4_ := Aside0.mk (blk_drew BK502.out)
      have n5_ := Aside0.mk (below_drew1 HB.out)
      clear HO_503000
      clear HO_503001
      clear BK487
      clear BK497
      clear BK502
      clear HB
      have HO_503000 := n0_
      have HO_503001 := n1_
      have BK487 := n2_
      have BK497 := n3_
      have BK502 := n4_
      have HB := n5_
      clear n0_ n1_ n2_ n3_ n4_ n5_
      obtain ⟨Ao33, co33, eo33⟩ := Kd.R_slice HO_503001.out
      (first | subst eo33 | (injection eo33 with f1_ f2_ f3_; have f4_ := f1_.symm; have f5_ := f3_.symm; clear f1_ f2_ f3_; subst f4_; subst f5_))
      refine start_ (n := 6) (S := fun w' => w'.cell? ⟨gb502, 0, none⟩ = some (.slice Ao14 y498.length co14) ∧ w'.cell? ⟨gb502, 1, none⟩ = some (.slice Ao33 x503001_1.length co33) ∧ w'.cell? ⟨gb502, 2, none⟩ = some (.int .i64 0) ∧ w'.cell? ⟨gb502, 3, none⟩ = some (.int .i64 0) ∧ w'.cell? ⟨gb502, 4, none⟩ = some (.int .i64 t501) ∧ w'.cell? ⟨gb502, 5, none⟩ = some (.int .i64 0) ∧ w'.cell? ⟨gb502, 6, none⟩ = some (.slice none 0 0) ∧ w'.cell? ⟨gb497, 0, none⟩ = some (.int .i64 t488) ∧ w'.cell? ⟨gb497, 1, none⟩ = some (.int .i64 t489) ∧ w'.cell? ⟨gb497, 2, none⟩ = some (.int .i64 t490) ∧ w'.cell? ⟨gb497, 3, none⟩ = some (.int .i64 t491) ∧ w'.cell? ⟨gb497, 4, none⟩ = some (.int .i64 t492) ∧ w'.cell? ⟨gb497, 5, none⟩ = some (.int .i64 t493) ∧ w'.cell? ⟨gb497, 6, none⟩ = some (.int .i64 t494) ∧ w'.cell? ⟨gb497, 7, none⟩ = some (.bool t495)) (ds := []) #[false, false, false, false, false, false] (by kernel_rfl) rfl rfl ⟨(blk_cell BK502.out 0).trans rfl, (blk_cell BK502.out 1).trans rfl, (blk_cell BK502.out 2).trans rfl, (blk_cell BK502.out 3).trans rfl, (blk_cell BK502.out 4).trans rfl, (blk_cell BK502.out 5).trans rfl, (blk_cell BK502.out 6).trans rfl, (blk_cell BK497.out 0).trans rfl, (blk_cell BK497.out 1).trans rfl, (blk_cell BK497.out 2).trans rfl, (blk_cell BK497.out 3).trans rfl, (blk_cell BK497.out 4).trans rfl, (blk_cell BK497.out 5).trans rfl, (blk_cell BK497.out 6).trans rfl, (blk_cell BK497.out 7).trans rfl⟩ (fun hHeld => ?_)
      generalize wr.drew = w31 at HO_503000 HO_503001 BK487 BK497 BK502 HB hHeld ⊢
      refine pure_ (i := 1) (N := some 46) (v := ?_) (a' := ?_) #[false, true, false, false, false, false] rfl rfl (by kernel_rfl) (fun _ _ _ h => h) (Or.inl ⟨by rfl, ?_⟩) ?_ ?_
      rotate_left
      ·intro w'
       go_simp
       with_reducible rfl
      rotate_left
      ·simp only [Act.put, sI_, s0_, sS_, i64_w, i32_w]
       rfl
      refine take_ (i := 0) (N := some 45) (v := ?_) (a' := ?_) #[true, true, false, false, false, false] rfl rfl (by kernel_rfl) (fun _ _ _ h => h) (Or.inl ⟨by rfl, ?_⟩) hHeld ?_ ?_
      rotate_left
      ·rintro w' ⟨s0, s1, s2, s3, s4, s5, s6, s7, s8, s9, s10, s11, s12, s13, s14⟩
       go_simp
       with_reducible rfl
      rotate_left
      ·simp only [Act.put, sI_, s0_, sS_, i64_w, i32_w]
       rfl
      refine take_ (i := 2) (N := some 47) (v := ?_) (a' := ?_) #[true, true, true, false, false, false] rfl rfl (by kernel_rfl) (fun _ _ _ h => h) (Or.inl ⟨by rfl, ?_⟩) hHeld ?_ ?_
      rotate_left
      ·rintro w' ⟨s0, s1, s2, s3, s4, s5, s6, s7, s8, s9, s10, s11, s12, s13, s14⟩
       go_simp
       with_reducible rfl
      rotate_left
      ·simp only [Act.put, sI_, s0_, sS_, i64_w, i32_w]
       rfl
      refine one_ (i := 3) (N := none) #[true, true, true, true, false, false] rfl rfl (by kernel_rfl) (by decide) (fun K hK => ?_)
      have hs32 : w31.cell? ⟨gb487, 0, none⟩ = some (.slice none 0 0) := (blk_cell BK487.out 0).trans rfl
      have hfs32 := blk_frozen BK487.out 0
      have hns32_1 := NB497_487.out
      have hns32_2 := NB502_487.out
      have hms32_1 := NB487_497.out
      have hms32_2 := NB487_502.out
      have hs34 : w31.cell? ⟨gb487, 1, none⟩ = some (.slice none 0 0) := (blk_cell BK487.out 1).trans rfl
      have hfs34 := blk_frozen BK487.out 1
      have hns34_1 := NB497_487.out
      have hns34_2 := NB502_487.out
      have hms34_1 := NB487_497.out
      have hms34_2 := NB487_502.out
      have hs35 : w31.cell? ⟨gb487, 2, none⟩ = some (.int .i64 0) := (blk_cell BK487.out 2).trans rfl
      have hfs35 := blk_frozen BK487.out 2
      have hns35_1 := NB497_487.out
      have hns35_2 := NB502_487.out
      have hms35_1 := NB487_497.out
      have hms35_2 := NB487_502.out
      have hs36 : w31.cell? ⟨gb487, 3, none⟩ = some (.int .i64 0) := (blk_cell BK487.out 3).trans rfl
      have hfs36 := blk_frozen BK487.out 3
      have hns36_1 := NB497_487.out
      have hns36_2 := NB502_487.out
      have hms36_1 := NB487_497.out
      have hms36_2 := NB487_502.out
      have hs37 : w31.cell? ⟨gb487, 4, none⟩ = some (.int .i64 0) := (blk_cell BK487.out 4).trans rfl
      have hfs37 := blk_frozen BK487.out 4
      have hns37_1 := NB497_487.out
      have hns37_2 := NB502_487.out
      have hms37_1 := NB487_497.out
      have hms37_2 := NB487_502.out
      have hs38 : w31.cell? ⟨gb487, 5, none⟩ = some (.int .i64 0) := (blk_cell BK487.out 5).trans rfl
      have hfs38 := blk_frozen BK487.out 5
      have hns38_1 := NB497_487.out
      have hns38_2 := NB502_487.out
      have hms38_1 := NB487_497.out
      have hms38_2 := NB487_502.out
      have hs39 : w31.cell? ⟨gb487, 6, none⟩ = some (.slice none 0 0) := (blk_cell BK487.out 6).trans rfl
      have hfs39 := blk_frozen BK487.out 6
      have hns39_1 := NB497_487.out
      have hns39_2 := NB502_487.out
      have hms39_1 := NB487_497.out
      have hms39_2 := NB487_502.out
      refine skip_ (w1 := ?_) (by rfl) rfl ?_ ?_
      rotate_left
      ·go_simp
       rfl
      refine hK.out _ _ ⟨((cell_far (p := ⟨gb487, _, none⟩) NB502_487.out _).trans (((cell_far (p := ⟨gb487, _, none⟩) NB502_487.out _).trans (((cell_far (p := ⟨gb487, _, none⟩) NB502_487.out _).trans (((cell_far (p := ⟨gb487, _, none⟩) NB502_487.out _).trans (((cell_far (p := ⟨gb487, _, none⟩) NB502_487.out _).trans (((cell_far (p := ⟨gb487, _, none⟩) NB502_487.out _).trans (((cell_far (p := ⟨gb487, _, none⟩) NB502_487.out _).trans (hHeld.1)))))))))))))), ((cell_far (p := ⟨gb487, _, none⟩) NB502_487.out _).trans (((cell_far (p := ⟨gb487, _, none⟩) NB502_487.out _).trans (((cell_far (p := ⟨gb487, _, none⟩) NB502_487.out _).trans (((cell_far (p := ⟨gb487, _, none⟩) NB502_487.out _).trans (((cell_far (p := ⟨gb487, _, none⟩) NB502_487.out _).trans (((cell_far (p := ⟨gb487, _, none⟩) NB502_487.out _).trans (((cell_far (p := ⟨gb487, _, none⟩) NB502_487.out _).trans (hHeld.2.1)))))))))))))), ((cell_far (p := ⟨gb487, _, none⟩) NB502_487.out _).trans (((cell_far (p := ⟨gb487, _, none⟩) NB502_487.out _).trans (((cell_far (p := ⟨gb487, _, none⟩) NB502_487.out _).trans (((cell_far (p := ⟨gb487, _, none⟩) NB502_487.out _).trans (((cell_far (p := ⟨gb487, _, none⟩) NB502_487.out _).trans (((cell_far (p := ⟨gb487, _, none⟩) NB502_487.out _).trans (((cell_far (p := ⟨gb487, _, none⟩) NB502_487.out _).trans (hHeld.2.2.1)))))))))))))), ((cell_far (p := ⟨gb487, _, none⟩) NB502_487.out _).trans (((cell_far (p := ⟨gb487, _, none⟩) NB502_487.out _).trans (((cell_far (p := ⟨gb487, _, none⟩) NB502_487.out _).trans (((cell_far (p := ⟨gb487, _, none⟩) NB502_487.out _).trans (((cell_far (p := ⟨gb487, _, none⟩) NB502_487.out _).trans (((cell_far (p := ⟨gb487, _, none⟩) NB502_487.out _).trans (((cell_far (p := ⟨gb487, _, none⟩) NB502_487.out _).trans (hHeld.2.2.2.1)))))))))))))), ((cell_far (p := ⟨gb487, _, none⟩) NB502_487.out _).trans (((cell_far (p := ⟨gb487, _, none⟩) NB502_487.out _).trans (((cell_far (p := ⟨gb487, _, none⟩) NB502_487.out _).trans (((cell_far (p := ⟨gb487, _, none⟩) NB502_487.out _).trans (((cell_far (p := ⟨gb487, _, none⟩) NB502_487.out _).trans (((cell_far (p := ⟨gb487, _, none⟩) NB502_487.out _).trans (((cell_far (p := ⟨gb487, _, none⟩) NB502_487.out _).trans (hHeld.2.2.2.2.1)))))))))))))), ((cell_far (p := ⟨gb487, _, none⟩) NB502_487.out _).trans (((cell_far (p := ⟨gb487, _, none⟩) NB502_487.out _).trans (((cell_far (p := ⟨gb487, _, none⟩) NB502_487.out _).trans (((cell_far (p := ⟨gb487, _, none⟩) NB502_487.out _).trans (((cell_far (p := ⟨gb487, _, none⟩) NB502_487.out _).trans (((cell_far (p := ⟨gb487, _, none⟩) NB502_487.out _).trans (((cell_far (p := ⟨gb487, _, none⟩) NB502_487.out _).trans (hHeld.2.2.2.2.2.1)))))))))))))), ((cell_far (p := ⟨gb487, _, none⟩) NB502_487.out _).trans (((cell_far (p := ⟨gb487, _, none⟩) NB502_487.out _).trans (((cell_far (p := ⟨gb487, _, none⟩) NB502_487.out _).trans (((cell_far (p := ⟨gb487, _, none⟩) NB502_487.out _).trans (((cell_far (p := ⟨gb487, _, none⟩) NB502_487.out _).trans (((cell_far (p := ⟨gb487, _, none⟩) NB502_487.out _).trans (((cell_far (p := ⟨gb487, _, none⟩) NB502_487.out _).trans (hHeld.2.2.2.2.2.2.1)))))))))))))), ((cell_far (p := ⟨gb487, _, none⟩) NB497_487.out _).trans (((cell_far (p := ⟨gb487, _, none⟩) NB497_487.out _).trans (((cell_far (p := ⟨gb487, _, none⟩) NB497_487.out _).trans (((cell_far (p := ⟨gb487, _, none⟩) NB497_487.out _).trans (((cell_far (p := ⟨gb487, _, none⟩) NB497_487.out _).trans (((cell_far (p := ⟨gb487, _, none⟩) NB497_487.out _).trans (((cell_far (p := ⟨gb487, _, none⟩) NB497_487.out _).trans (hHeld.2.2.2.2.2.2.2.1)))))))))))))), ((cell_far (p := ⟨gb487, _, none⟩) NB497_487.out _).trans (((cell_far (p := ⟨gb487, _, none⟩) NB497_487.out _).trans (((cell_far (p := ⟨gb487, _, none⟩) NB497_487.out _).trans (((cell_far (p := ⟨gb487, _, none⟩) NB497_487.out _).trans (((cell_far (p := ⟨gb487, _, none⟩) NB497_487.out _).trans (((cell_far (p := ⟨gb487, _, none⟩) NB497_487.out _).trans (((cell_far (p := ⟨gb487, _, none⟩) NB497_487.out _).trans (hHeld.2.2.2.2.2.2.2.2.1)))))))))))))), ((cell_far (p := ⟨gb487, _, none⟩) NB497_487.out _).trans (((cell_far (p := ⟨gb487, _, none⟩) NB497_487.out _).trans (((cell_far (p := ⟨gb487, _, none⟩) NB497_487.out _).trans (((cell_far (p := ⟨gb487, _, none⟩) NB497_487.out _).trans (((cell_far (p := ⟨gb487, _, none⟩) NB497_487.out _).trans (((cell_far (p := ⟨gb487, _, none⟩) NB497_487.out _).trans (((cell_far (p := ⟨gb487, _, none⟩) NB497_487.out _).trans (hHeld.2.2.2.2.2.2.2.2.2.1)))))))))))))), ((cell_far (p := ⟨gb487, _, none⟩) NB497_487.out _).trans (((cell_far (p := ⟨gb487, _, none⟩) NB497_487.out _).trans (((cell_far (p := ⟨gb487, _, none⟩) NB497_487.out _).trans (((cell_far (p := ⟨gb487, _, none⟩) NB497_487.out _).trans (((cell_far (p := ⟨gb487, _, none⟩) NB497_487.out _).trans (((cell_far (p := ⟨gb487, _, none⟩) NB497_487.out _).trans (((cell_far (p := ⟨gb487, _, none⟩) NB497_487.out _).trans (hHeld.2.2.2.2.2.2.2.2.2.2.1)))))))))))))), ((cell_far (p := ⟨gb487, _, none⟩) NB497_487.out _).trans (((cell_far (p := ⟨gb487, _, none⟩) NB497_487.out _).trans (((cell_far (p := ⟨gb487, _, none⟩) NB497_487.out _).trans (((cell_far (p := ⟨gb487, _, none⟩) NB497_487.out _).trans (((cell_far (p := ⟨gb487, _, none⟩) NB497_487.out _).trans (((cell_far (p := ⟨gb487, _, none⟩) NB497_487.out _).trans (((cell_far (p := ⟨gb487, _, none⟩) NB497_487.out _).trans (hHeld.2.2.2.2.2.2.2.2.2.2.2.1)))))))))))))), ((cell_far (p := ⟨gb487, _, none⟩) NB497_487.out _).trans (((cell_far (p := ⟨gb487, _, none⟩) NB497_487.out _).trans (((cell_far (p := ⟨gb487, _, none⟩) NB497_487.out _).trans (((cell_far (p := ⟨gb487, _, none⟩) NB497_487.out _).trans (((cell_far (p := ⟨gb487, _, none⟩) NB497_487.out _).trans (((cell_far (p := ⟨gb487, _, none⟩) NB497_487.out _).trans (((cell_far (p := ⟨gb487, _, none⟩) NB497_487.out _).trans (hHeld.2.2.2.2.2.2.2.2.2.2.2.2.1)))))))))))))), ((cell_far (p := ⟨gb487, _, none⟩) NB497_487.out _).trans (((cell_far (p := ⟨gb487, _, none⟩) NB497_487.out _).trans (((cell_far (p := ⟨gb487, _, none⟩) NB497_487.out _).trans (((cell_far (p := ⟨gb487, _, none⟩) NB497_487.out _).trans (((cell_far (p := ⟨gb487, _, none⟩) NB497_487.out _).trans (((cell_far (p := ⟨gb487, _, none⟩) NB497_487.out _).trans (((cell_far (p := ⟨gb487, _, none⟩) NB497_487.out _).trans (hHeld.2.2.2.2.2.2.2.2.2.2.2.2.2.1)))))))))))))), ((cell_far (p := ⟨gb487, _, none⟩) NB497_487.out _).trans (((cell_far (p := ⟨gb487, _, none⟩) NB497_487.out _).trans (((cell_far (p := ⟨gb487, _, none⟩) NB497_487.out _).trans (((cell_far (p := ⟨gb487, _, none⟩) NB497_487.out _).trans (((cell_far (p := ⟨gb487, _, none⟩) NB497_487.out _).trans (((cell_far (p := ⟨gb487, _, none⟩) NB497_487.out _).trans (((cell_far (p := ⟨gb487, _, none⟩) NB497_487.out _).trans (hHeld.2.2.2.2.2.2.2.2.2.2.2.2.2.2))))))))))))))⟩ (fun hHeld => ?_)
      clear hK K
      refine pure_ (i := 4) (N := some 5) (v := ?_) (a' := ?_) #[true, true, true, true, true, false] rfl rfl (by kernel_rfl) (fun _ _ _ h => h) (Or.inl ⟨by rfl, ?_⟩) ?_ ?_
      rotate_left
      ·intro w'
       go_simp
       with_reducible rfl
      rotate_left
      ·simp only [Act.put, sI_, s0_, sS_, i64_w, i32_w]
       rfl
      refine pure_ (i := 5) (N := some 6) (v := ?_) (a' := ?_) #[true, true, true, true, true, true] rfl rfl (by kernel_rfl) (fun _ _ _ h => h) (Or.inl ⟨by rfl, ?_⟩) ?_ ?_
      rotate_left
      ·intro w'
       go_simp
       with_reducible rfl
      rotate_left
      ·simp only [Act.put, sI_, s0_, sS_, i64_w, i32_w]
       rfl
      refine done_ (by kernel_rfl) ?_
      try go_wp2
      refine bodyPost_ret (results_ctt rfl _ _ gb487 27 #[.slice Ao14 y498.length co14, .slice Ao33 x503001_1.length co33, .int .i64 0, .int .i64 0, .int .i64 t501, .int .i64 0, .slice none 0 0] (0, 0) _ rfl (dP7_ BK487) Try.underlying27 rfl (by kernel_rfl)) rfl ?_
      exact ⟨_, _, _, tE_, by (with_reducible repeat (first | apply Kd.R_alloc | apply Kd.R_drewN | apply Kd.R_drew)); exact Kd.R_mono (far7_ (Kd.R_types HO_503000.out BK487.out (by decide)) gb487 (fun _ hk => hk.2) (.slice Ao14 y498.length co14) (.slice Ao33 x503001_1.length co33) (.int .i64 0) (.int .i64 0) (.int .i64 t501) (.int .i64 0) (.slice none 0 0)) (fun _ hk => hk.1), by (with_reducible repeat (first | apply Kd.R_alloc | apply Kd.R_drewN | apply Kd.R_drew)); exact Kd.R_mono (far7_ (Kd.R_types HO_503001.out BK487.out (by decide)) gb487 (fun _ hk => hk.2) (.slice Ao14 y498.length co14) (.slice Ao33 x503001_1.length co33) (.int .i64 0) (.int .i64 0) (.int .i64 t501) (.int .i64 0) (.slice none 0 0)) (fun _ hk => hk.1), by first | exact Kd.R_nil _ _ _ _ _ | exact Kd.N_nil _ _ _ _ _ | exact Kd.V_nil _ _ _ _ _ | exact Kd.Q_nil _ _ _ _ _ | exact Kd.S_nil _ _ _ _ _, dL3_ HB GE487 GE497 GE502⟩
  ·rw [if_neg c5] at H
   exact absurd H (by simp)
 ·rw [if_neg c4] at H
  have c4b0 : (t496 == 0) = false := beq_eq_false_iff_ne.mpr c4
  have c4b1 : (t496 != 0) = true := bne_iff_ne.mpr c4
  simp only [Option.some.injEq, Prod.mk.injEq] at H
  obtain ⟨rfl, rfl, rfl, rfl, rfl, rfl, rfl, rfl, rfl⟩ := H
  go_enter Try.func31, Try.ntmps31
  go_wp2_with (first | ((with_reducible refine gate_dst (N := 4) rfl ?_); refine box_event ?hg (N := 4) ?hd (cs := #[.slice none 0 0, .slice none 0 0, .int .i64 0, .int .i64 0, .int .i64 0, .int .i64 0, .slice none 0 0]) (t := 27) ?hr ?_; (case hd => rfl); (case hg => rfl); (case hr => first | (go_simp; done) | (go_simp; rfl)); intro gb487 hg w40 hbox hb; have n0_ := Aside0.mk (below_step (dL_ HB) hb); have n1_ := Aside0.mk (hbox); have n2_ := Aside0.mk ((dS_ hg (dL_ HB) : w.heap.size ≤ gb487)); have n3_ := Aside0.mk ((dS_ hg (dL_ HB) : w.heap.size ≤ gb487)); clear HB; have HB := n0_; have BK487 := n1_; have GW487 := n2_; have GE487 := n3_; clear n0_ n1_ n2_ n3_; clear hb hbox hg) | ((with_reducible refine gate_callee (f := 19) rfl ?_); refine goesL_ (some 15) rfl rfl Try.func19 (by kernel_rfl) rfl #[.slice A0 l0.length c0, .slice A1 l1.length c1] rfl tA_ ?_; (with_reducible refine (fleet_Facts.calls k _ _ l0 _ _ l1 t488 t489 t490 t491 t492 t493 t494 t495 t496 _ ?side1 ?side2 ?side3 ?side4 A3.out).mono ?_); (case side1 => exact dC_ HR0 HB); (case side2 => exact HC0.out); (case side3 => exact dC_ HR1 HB); (case side4 => exact HC1.out); rintro e w41 ⟨rfl, hb⟩; refine ⟨_, rfl, ?_⟩; have n0_ := Aside0.mk (bb_ BK487 hb); have n1_ := Aside0.mk (below_step (dL1_ HB GE487) hb); clear BK487; clear HB; have BK487 := n0_; have HB := n1_; clear n0_ n1_; (try clear hb); (try clear hb2); (try clear hk); (try clear hi)) | ((with_reducible refine gate_dst (N := 7) rfl ?_); refine box_event ?hg (N := 7) ?hd (cs := #[.int .i64 0, .int .i64 0, .int .i64 0, .int .i64 0, .int .i64 0, .int .i64 0, .int .i64 0, .bool false]) (t := 33) ?hr ?_; (case hd => rfl); (case hg => rfl); (case hr => first | (go_simp; done) | (go_simp; rfl)); intro gb497 hg w42 hbox hb; have n0_ := Aside0.mk (bb_ BK487 hb); have n1_ := Aside0.mk (below_step (dL1_ HB GE487) hb); have n2_ := Aside0.mk (hbox); have n3_ := Aside0.mk ((dS_ hg (dL1_ HB GE487) : w.heap.size ≤ gb497)); have n4_ := Aside0.mk ((dS_ hg (dL1_ HB GE487) : w.heap.size ≤ gb497)); have n5_ := Aside0.mk ((by rw [hg]; exact Nat.ne_of_lt (blk_lt (dB_ BK487)) : gb487 ≠ gb497)); have n6_ := Aside0.mk ((by rw [hg]; exact Nat.ne_of_gt (blk_lt (dB_ BK487)) : gb497 ≠ gb487)); clear BK487; clear HB; have BK487 := n0_; have HB := n1_; have BK497 := n2_; have GW497 := n3_; have GE497 := n4_; have NB487_497 := n5_; have NB497_487 := n6_; clear n0_ n1_ n2_ n3_ n4_ n5_ n6_; clear hb hbox hg; have hnb43 := NB497_487.out; have hnc43 := NB487_497.out; obtain ⟨hcz44_0, hcz44_1, hcz44_2, hcz44_3, hcz44_4, hcz44_5, hcz44_6, hcz44_7, hfz44_0, hfz44_1, hfz44_2, hfz44_3, hfz44_4, hfz44_5, hfz44_6, hfz44_7⟩ := cs8_ BK497.out; obtain ⟨hcz45_0, hcz45_1, hcz45_2, hcz45_3, hcz45_4, hcz45_5, hcz45_6, hfz45_0, hfz45_1, hfz45_2, hfz45_3, hfz45_4, hfz45_5, hfz45_6⟩ := cs7_ BK487.out))
  refine bodyPost_ret (results_ctt rfl _ _ gb487 27 #[.slice none 0 0, .slice none 0 0, .int .i64 0, .int .i64 0, .int .i64 0, .int .i64 0, .slice none 0 0] (0, 0) _ rfl (by (with_reducible repeat (first | refine blk_drewN ?_ _ | refine blk_drew ?_ | refine blk_alloc ?_ _)); refine blk_put (cs := #[.slice none 0 0, .slice none 0 0, .int .i64 0, .int .i64 0, .int .i64 0, .int .i64 0, .slice none 0 0]) ?_ 6 _ rfl; (with_reducible repeat (first | refine blk_drewN ?_ _ | refine blk_drew ?_ | refine blk_alloc ?_ _)); refine blk_put (cs := #[.slice none 0 0, .slice none 0 0, .int .i64 0, .int .i64 0, .int .i64 0, .int .i64 0, .slice none 0 0]) ?_ 5 _ rfl; (with_reducible repeat (first | refine blk_drewN ?_ _ | refine blk_drew ?_ | refine blk_alloc ?_ _)); refine blk_put (cs := #[.slice none 0 0, .slice none 0 0, .int .i64 0, .int .i64 0, .int .i64 0, .int .i64 0, .slice none 0 0]) ?_ 4 _ rfl; (with_reducible repeat (first | refine blk_drewN ?_ _ | refine blk_drew ?_ | refine blk_alloc ?_ _)); refine blk_put (cs := #[.slice none 0 0, .slice none 0 0, .int .i64 0, .int .i64 0, .int .i64 0, .int .i64 0, .slice none 0 0]) ?_ 3 _ rfl; (with_reducible repeat (first | refine blk_drewN ?_ _ | refine blk_drew ?_ | refine blk_alloc ?_ _)); refine blk_put (cs := #[.slice none 0 0, .slice none 0 0, .int .i64 0, .int .i64 0, .int .i64 0, .int .i64 0, .slice none 0 0]) ?_ 2 _ rfl; (with_reducible repeat (first | refine blk_drewN ?_ _ | refine blk_drew ?_ | refine blk_alloc ?_ _)); refine blk_put (cs := #[.slice none 0 0, .slice none 0 0, .int .i64 0, .int .i64 0, .int .i64 0, .int .i64 0, .slice none 0 0]) ?_ 1 _ rfl; (with_reducible repeat (first | refine blk_drewN ?_ _ | refine blk_drew ?_ | refine blk_alloc ?_ _)); refine blk_put (cs := #[.slice none 0 0, .slice none 0 0, .int .i64 0, .int .i64 0, .int .i64 0, .int .i64 0, .slice none 0 0]) ?_ 0 _ rfl; (with_reducible repeat (first | refine blk_drewN ?_ _ | refine blk_drew ?_ | refine blk_alloc ?_ _)); refine blk_far ?_ NB487_497.out _; (with_reducible repeat (first | refine blk_drewN ?_ _ | refine blk_drew ?_ | refine blk_alloc ?_ _)); refine blk_far ?_ NB487_497.out _; (with_reducible repeat (first | refine blk_drewN ?_ _ | refine blk_drew ?_ | refine blk_alloc ?_ _)); refine blk_far ?_ NB487_497.out _; (with_reducible repeat (first | refine blk_drewN ?_ _ | refine blk_drew ?_ | refine blk_alloc ?_ _)); refine blk_far ?_ NB487_497.out _; (with_reducible repeat (first | refine blk_drewN ?_ _ | refine blk_drew ?_ | refine blk_alloc ?_ _)); refine blk_far ?_ NB487_497.out _; (with_reducible repeat (first | refine blk_drewN ?_ _ | refine blk_drew ?_ | refine blk_alloc ?_ _)); refine blk_far ?_ NB487_497.out _; (with_reducible repeat (first | refine blk_drewN ?_ _ | refine blk_drew ?_ | refine blk_alloc ?_ _)); refine blk_far ?_ NB487_497.out _; (with_reducible repeat (first | refine blk_drewN ?_ _ | refine blk_drew ?_ | refine blk_alloc ?_ _)); refine blk_far ?_ NB487_497.out _; (with_reducible repeat (first | refine blk_drewN ?_ _ | refine blk_drew ?_ | refine blk_alloc ?_ _)); exact BK487.out) Try.underlying27 rfl (by kernel_rfl)) rfl ?_
  exact ⟨_, _, _, tE_, by first | exact Kd.R_nil _ _ _ _ _ | exact Kd.N_nil _ _ _ _ _ | exact Kd.V_nil _ _ _ _ _ | exact Kd.Q_nil _ _ _ _ _ | exact Kd.S_nil _ _ _ _ _, by first | exact Kd.R_nil _ _ _ _ _ | exact Kd.N_nil _ _ _ _ _ | exact Kd.V_nil _ _ _ _ _ | exact Kd.Q_nil _ _ _ _ _ | exact Kd.S_nil _ _ _ _ _, by first | exact Kd.R_nil _ _ _ _ _ | exact Kd.N_nil _ _ _ _ _ | exact Kd.V_nil _ _ _ _ _ | exact Kd.Q_nil _ _ _ _ _ | exact Kd.S_nil _ _ _ _ _, dL2_ HB GE487 GE497⟩

end Go.Proofs.Ytgnahbjpockdmaa.Q
