-- PRINTED by print.py out of the translation. Not trusted: Lean checks it.
import Derived.Test.YtgnahbjpockdmaaPrs
import Derived.Test.YtgnahbjpockdmaaQ0
import Derived.Test.YtgnahbjpockdmaaQ20
import Derived.Test.YtgnahbjpockdmaaQ53
import Derived.Test.YtgnahbjpockdmaaQ50
namespace Go.Proofs.Ytgnahbjpockdmaa.Q
open Go.RowKit Go.Proofs.YtgnahbjpockdmaaPrs Go.Proofs.YtgnahbjpockdmaaOwn Go.Proofs.YtgnahbjpockdmaaW.PrintWords Go.Proofs.YtgnahbjpockdmaaW.PrintLast Go.Proofs.YtgnahbjpockdmaaW.PrintMore
open List renaming setIfInBounds_toArray → sI_, set_cons_zero → s0_, set_cons_succ → sS_
attribute [local go_sem] max2_int min2_int max_two min_two max_three min_three max_four min_four   -- for this text's walks alone
set_option linter.unusedVariables false
set_option linter.unusedSimpArgs false

/-! ### hinterlandref14_New: function 32 -/
def hinterlandref14_New.l0 : Nat → List (S54) → List Int → List Int → Int → Int → Int → Int → Int → Int → Int → Int → Int → Bool → List Int → List Int → Int → Int → Int → Int → Option (List Int × List Int × Int × Int × Int × Int × (List (S69)) × Int × Int)
  | 0, _, _, _, _, _, _, _, _, _, _, _, _, _, _, _, _, _, _, _ => none
  | k + 1, x0, x1, x27, x28, x29, x524000, x524001, x524002, x524003, x524004, x524005, x524006, x524007, x528000, x528001, x528002, x528003, x528004, x528005 => if x29 < x28 then (if 0 ≤ x29 then (if x29 < (x27.length : Int) then (if 0 ≤ (rd x27 x29) then (if (rd x27 x29) < (x0.length : Int) then ((hinterlandref14_carries.f ((rd_T54 x0 (rd x27 x29)).f0) ((rd_T54 x0 (rd x27 x29)).f1) ((rd_T54 x0 (rd x27 x29)).f2) ((rd_T54 x0 (rd x27 x29)).f3) ((rd_T54 x0 (rd x27 x29)).f4) ((rd_T54 x0 (rd x27 x29)).f5) ((rd_T54 x0 (rd x27 x29)).f6) ((rd_T54 x0 (rd x27 x29)).f7) ((rd_T54 x0 (rd x27 x29)).f8) ((rd_T54 x0 (rd x27 x29)).f9) ((rd_T54 x0 (rd x27 x29)).f10) ((rd_T54 x0 (rd x27 x29)).f11) ((rd_T54 x0 (rd x27 x29)).f12) ((rd_T54 x0 (rd x27 x29)).f13)).bind fun t530 => (if x528001.length < 17592186044416 then (hinterlandref14_New.l0 k x0 x1 x27 x28 (wrap64 (x29 + 1)) x524000 x524001 x524002 x524003 x524004 x524005 x524006 x524007 x528000 (x528001 ++ [t530]) x528002 x528003 x528004 x528005) else (none))) else (none)) else (none)) else (none)) else (none)) else ((hinterlandref14_least.f k x0 x1).bind fun bt534 => (some (x528000, x528001, x528002, x528003, bt534.1, x528005, ([] : List (S69)), x524005, 0)))
def hinterlandref14_New.f (k : Nat) (l0 : List (S54)) (l1 : List Int) : Option (List Int × List Int × Int × Int × Int × Int × (List (S69)) × Int × Int) := (hinterlandref14_Facts.f k l0 l1).bind fun bt514 => (if bt514.2.2.2.2.2.2.2.2 = 0 then (if ([] : List Int).length + l1.length < 17592186044416 then (hinterlandref14_New.l0 k l0 l1 l1 (l1.length : Int) 0 bt514.1 bt514.2.1 bt514.2.2.1 bt514.2.2.2.1 bt514.2.2.2.2.1 bt514.2.2.2.2.2.1 bt514.2.2.2.2.2.2.1 bt514.2.2.2.2.2.2.2.1 (([] : List Int) ++ l1) ([] : List Int) 0 0 0 0) else (none)) else (some (([] : List Int), ([] : List Int), 0, 0, 0, 0, ([] : List (S69)), 0, bt514.2.2.2.2.2.2.2.2)))
theorem hinterlandref14_New.mono_l : ∀ k, (∀ y0 y1 y2 y3 y4 y5 y6 y7 y8 y9 y10 y11 y12 y13 y14 y15 y16 y17 y18, LeO (hinterlandref14_New.l0 k y0 y1 y2 y3 y4 y5 y6 y7 y8 y9 y10 y11 y12 y13 y14 y15 y16 y17 y18) (hinterlandref14_New.l0 (k + 1) y0 y1 y2 y3 y4 y5 y6 y7 y8 y9 y10 y11 y12 y13 y14 y15 y16 y17 y18))
  | 0 => fun _ _ _ _ _ _ _ _ _ _ _ _ _ _ _ _ _ _ _ r h => by simp [hinterlandref14_New.l0] at h
  | k + 1 => by
    have ih0 := hinterlandref14_New.mono_l k
    · intro y0 y1 y2 y3 y4 y5 y6 y7 y8 y9 y10 y11 y12 y13 y14 y15 y16 y17 y18
      unfold hinterlandref14_New.l0
      repeat' first
      | (with_reducible exact ih0 _ _ _ _ _ _ _ _ _ _ _ _ _ _ _ _ _ _ _)
      | (with_reducible exact hinterlandref14_Facts.mono _ _ _)
      | (with_reducible exact hinterlandref14_least.mono _ _ _)
      | (with_reducible exact LeO.refl _)
      | (with_reducible exact LeO.none _)
      | (with_reducible refine LeO.ite ?_ ?_)
      | (with_reducible refine LeO.bind ?_ (fun _ => ?_))
      | exact ih0 _ _ _ _ _ _ _ _ _ _ _ _ _ _ _ _ _ _ _
      | exact hinterlandref14_Facts.mono _ _ _
      | exact hinterlandref14_least.mono _ _ _
      | exact LeO.none _
      | refine LeO.ite ?_ ?_
      | refine LeO.bind ?_ (fun _ => ?_)
theorem hinterlandref14_New.mono : ∀ a0 a1 k, LeO (hinterlandref14_New.f k a0 a1) (hinterlandref14_New.f (k + 1) a0 a1) := by
  intro a0 a1 k
  have ih0 := hinterlandref14_New.mono_l k
  unfold hinterlandref14_New.f
  repeat' first
      | (with_reducible exact ih0 _ _ _ _ _ _ _ _ _ _ _ _ _ _ _ _ _ _ _)
      | (with_reducible exact hinterlandref14_Facts.mono _ _ _)
      | (with_reducible exact hinterlandref14_least.mono _ _ _)
      | (with_reducible exact LeO.refl _)
      | (with_reducible exact LeO.none _)
      | (with_reducible refine LeO.ite ?_ ?_)
      | (with_reducible refine LeO.bind ?_ (fun _ => ?_))
      | exact ih0 _ _ _ _ _ _ _ _ _ _ _ _ _ _ _ _ _ _ _
      | exact hinterlandref14_Facts.mono _ _ _
      | exact hinterlandref14_least.mono _ _ _
      | exact LeO.none _
      | refine LeO.ite ?_ ?_
      | refine LeO.bind ?_ (fun _ => ?_)
def hinterlandref14_New.T8 : Bool × List (List Nat × List Nat) := (true, [([], []), ([0], [0]), ([], []), ([], []), ([2, 3], [2, 3]), ([4], [4]), ([5], [5]), ([6], [6]), ([1, 7, 6], [1, 7]), ([0, 1, 2, 3, 4, 5, 6, 7, 8], []), ([9, 8, 8, 0, 1, 2, 3, 4, 5, 6, 7, 8], [8, 9])])
def hinterlandref14_New.B8 : List Nat := [0, 1, 0, 0, 12, 28, 60, 124, 255, 511, 1023]
theorem hinterlandref14_New.tab8 : rtab .any (opsOf Try.f32 8) = hinterlandref14_New.T8 := by kernel_rfl
theorem hinterlandref14_New.bits8 : waitsOk hinterlandref14_New.T8.2 hinterlandref14_New.B8 = true := by kernel_rfl
set_option maxHeartbeats 8000000 in
set_option maxRecDepth 100000 in
theorem hinterlandref14_New.calls (k : Nat) (A0 : Option Addr) (c0 : Nat) (l0 : List (S54)) (A1 : Option Addr) (c1 : Nat) (l1 : List Int) (r1 : List Int) (r2 : List Int) (r3 : Int) (r4 : Int) (r5 : Int) (r6 : Int) (r7 : List (S69)) (r8 : Int) (r9 : Int) (w : World) (hr0 : Kd.C k54 w A0 l0.length l0) (hc0 : l0.length ≤ c0) (hr1 : Kd.C (Kd.int .i64) w A1 l1.length l1) (hc1 : l1.length ≤ c1) (h : hinterlandref14_New.f k l0 l1 = some (r1, r2, r3, r4, r5, r6, r7, r8, r9)) :
    Calls Try.prog 32 #[.slice A0 l0.length c0, .slice A1 l1.length c1] w fun e w' => ∃ v0_ v1_ v6_ : Value, e = .returned (.tuple #[.agg #[v0_, v1_, .int .i64 r3, .int .i64 r4, .int .i64 r5, .int .i64 r6, v6_], .int .i64 r8, .int .i64 r9]) ∧ Kd.R (Kd.int .i64) 3 w' w.heap.size (fun k_ => some k_ ≠ (v1_ : Value).ownBlock) v0_ r1 ∧ Kd.R (Kd.int .i64) 3 w' w.heap.size (fun k_ => some k_ ≠ (v0_ : Value).ownBlock) v1_ r2 ∧ Kd.R k69 69 w' w.heap.size (fun _ => True) v6_ r7 ∧ Below w.heap.size w w' := by
 have hu27 := Try.underlying27
 have hu33 := Try.underlying33
 have hu54 := Try.underlying54
 have HR0 := Aside0.mk hr0
 have HC0 := Aside0.mk hc0
 clear hr0 hc0
 have HR1 := Aside0.mk hr1
 have HC1 := Aside0.mk hc1
 clear hr1 hc1
 have HB := Aside0.mk (Below.refl w.heap.size w)
 have H : ((hinterlandref14_Facts.f k l0 l1).bind fun bt514 => (if bt514.2.2.2.2.2.2.2.2 = 0 then (if ([] : List Int).length + l1.length < 17592186044416 then (hinterlandref14_New.l0 k l0 l1 l1 (l1.length : Int) 0 bt514.1 bt514.2.1 bt514.2.2.1 bt514.2.2.2.1 bt514.2.2.2.2.1 bt514.2.2.2.2.2.1 bt514.2.2.2.2.2.2.1 bt514.2.2.2.2.2.2.2.1 (([] : List Int) ++ l1) ([] : List Int) 0 0 0 0) else (none)) else (some (([] : List Int), ([] : List Int), 0, 0, 0, 0, ([] : List (S69)), 0, bt514.2.2.2.2.2.2.2.2)))) = some (r1, r2, r3, r4, r5, r6, r7, r8, r9) := h
 clear h
 replace H := Option.bind_eq_some_iff.mp H
 obtain ⟨⟨t514, t515, t516, t517, t518, t519, t520, t521, t522⟩, A30, H⟩ := H
 replace H : (if t522 = 0 then (if ([] : List Int).length + l1.length < 17592186044416 then (hinterlandref14_New.l0 k l0 l1 l1 (l1.length : Int) 0 t514 t515 t516 t517 t518 t519 t520 t521 (([] : List Int) ++ l1) ([] : List Int) 0 0 0 0) else (none)) else (some (([] : List Int), ([] : List Int), 0, 0, 0, 0, ([] : List (S69)), 0, t522))) = some (r1, r2, r3, r4, r5, r6, r7, r8, r9) := H
 have A3 := Aside0.mk A30
 clear A30
 by_cases c4 : t522 = 0
 ·rw [if_pos c4] at H
  have c4b0 : (t522 == 0) = true := beq_iff_eq.mpr c4
  have c4b1 : (t522 != 0) = false := bne_eq_false_iff_eq.mpr c4
  clear c4
  by_cases c5 : ([] : List Int).length + l1.length < 17592186044416
  ·rw [if_pos c5] at H
   have LMc5 := Aside0.mk c5
   clear c5
   obtain ⟨y524, hy524⟩ : ∃ y_ : List Int, y_ = (([] : List Int) ++ l1) := ⟨_, rfl⟩
   replace H : (hinterlandref14_New.l0 k l0 l1 l1 (l1.length : Int) 0 t514 t515 t516 t517 t518 t519 t520 t521 y524 ([] : List Int) 0 0 0 0) = some (r1, r2, r3, r4, r5, r6, r7, r8, r9) := by first | (rw [hy524]; with_reducible exact H) | (have H2_ := (Option.bind_some _ _).symm.trans H; rw [hy524]; with_reducible exact H2_) | (have H2_ := (Option.bind_some _ _).symm.trans H; with_reducible exact H2_) | with_reducible exact H | (rw [hy524]; exact H) | exact H
   have Ny524 := Aside0.mk hy524
   clear hy524
   have H' := Aside0.mk H
   clear H
   go_enter Try.func32, Try.ntmps32
   go_wp2_with (first | ((with_reducible refine gate_dst (N := 4) rfl ?_); refine box_event ?hg (N := 4) ?hd (cs := #[.slice none 0 0, .slice none 0 0, .int .i64 0, .int .i64 0, .int .i64 0, .int .i64 0, .slice none 0 0]) (t := 27) ?hr ?_; (case hd => rfl); (case hg => rfl); (case hr => first | (go_simp; done) | (go_simp; rfl)); intro gb513 hg w6 hbox hb; have n0_ := Aside0.mk (below_step (dL_ HB) hb); have n1_ := Aside0.mk (hbox); have n2_ := Aside0.mk ((dS_ hg (dL_ HB) : w.heap.size ≤ gb513)); have n3_ := Aside0.mk ((dS_ hg (dL_ HB) : w.heap.size ≤ gb513)); clear HB; have HB := n0_; have BK513 := n1_; have GW513 := n2_; have GE513 := n3_; clear n0_ n1_ n2_ n3_; clear hb hbox hg) | ((with_reducible refine gate_callee (f := 20) rfl ?_); refine goesL_ (some 17) rfl rfl Try.func20 (by kernel_rfl) rfl #[.slice A0 l0.length c0, .slice A1 l1.length c1] rfl tA_ ?_; (with_reducible refine (hinterlandref14_Facts.calls k _ _ l0 _ _ l1 t514 t515 t516 t517 t518 t519 t520 t521 t522 _ ?side1 ?side2 ?side3 ?side4 A3.out).mono ?_); (case side1 => exact dC_ HR0 HB); (case side2 => exact HC0.out); (case side3 => exact dC_ HR1 HB); (case side4 => exact HC1.out); rintro e w7 ⟨rfl, hb⟩; refine ⟨_, rfl, ?_⟩; have n0_ := Aside0.mk (bb_ BK513 hb); have n1_ := Aside0.mk (below_step (dL1_ HB GE513) hb); clear BK513; clear HB; have BK513 := n0_; have HB := n1_; clear n0_ n1_; (try clear hb); (try clear hb2); (try clear hk); (try clear hi)) | ((with_reducible refine gate_dst (N := 7) rfl ?_); refine box_event ?hg (N := 7) ?hd (cs := #[.int .i64 0, .int .i64 0, .int .i64 0, .int .i64 0, .int .i64 0, .int .i64 0, .int .i64 0, .bool false]) (t := 33) ?hr ?_; (case hd => rfl); (case hg => rfl); (case hr => first | (go_simp; done) | (go_simp; rfl)); intro gb523 hg w8 hbox hb; have n0_ := Aside0.mk (bb_ BK513 hb); have n1_ := Aside0.mk (below_step (dL1_ HB GE513) hb); have n2_ := Aside0.mk (hbox); have n3_ := Aside0.mk ((dS_ hg (dL1_ HB GE513) : w.heap.size ≤ gb523)); have n4_ := Aside0.mk ((dS_ hg (dL1_ HB GE513) : w.heap.size ≤ gb523)); have n5_ := Aside0.mk ((by rw [hg]; exact Nat.ne_of_lt (blk_lt (dB_ BK513)) : gb513 ≠ gb523)); have n6_ := Aside0.mk ((by rw [hg]; exact Nat.ne_of_gt (blk_lt (dB_ BK513)) : gb523 ≠ gb513)); clear BK513; clear HB; have BK513 := n0_; have HB := n1_; have BK523 := n2_; have GW523 := n3_; have GE523 := n4_; have NB513_523 := n5_; have NB523_513 := n6_; clear n0_ n1_ n2_ n3_ n4_ n5_ n6_; clear hb hbox hg; have hnb9 := NB523_513.out; have hnc9 := NB513_523.out; obtain ⟨hcz10_0, hcz10_1, hcz10_2, hcz10_3, hcz10_4, hcz10_5, hcz10_6, hcz10_7, hfz10_0, hfz10_1, hfz10_2, hfz10_3, hfz10_4, hfz10_5, hfz10_6, hfz10_7⟩ := cs8_ BK523.out) | ((with_reducible refine gate_builtin (b := .append) (xs := #[.const (.slice none 0 0), .tmp 24]) rfl ?_); at_builtin; refine Kd.R_append_rows (Kd.int .i64) (w0 := w) w.heap.size rfl (.const (.slice none 0 0)) (.tmp 24) 24 3 (.int .i64 0) 8 rfl Try.underlying24 info3 rfl (by decide) (by omega) (.slice none 0 0) ([] : List Int) l1 _ _ _ (fun _ => True) (fun _ => False) rfl rfl ?aO ?aR (fun _ _ h => h) (fun _ h => h.elim) ?aF ?aB ?aS ?aL ?_; (case aR => exact Kd.C_below HR1.out (dL2_ HB GE513 GE523)); (case aB => exact (dL2_ HB GE513 GE523)); (case aF => exact (fun _ _ => trivial)); (case aO => exact ((Kd.R_nil _ _ _ _ (fun _ => True)))); (case aS => exact (below_size (dL2_ HB GE513 GE523))); (case aL => have := LMc5.out; omega); intro v525 w11 ho hb hg hat; rw [← Ny524.out] at ho; have n0_ := Aside0.mk (blk_grown (g := gb513) (o := .cells #[.slice none 0 0, .slice none 0 0, .int .i64 0, .int .i64 0, .int .i64 0, .int .i64 0, .slice none 0 0] 27 (0, 0)) (dF8_ BK513 NB513_523) hg (by simp [Value.ownBlock])); have n1_ := Aside0.mk (blk_grown (g := gb523) (o := .cells #[.int .i64 t514, .int .i64 t515, .int .i64 t516, .int .i64 t517, .int .i64 t518, .int .i64 t519, .int .i64 t520, .bool t521] 33 (0, 0)) (dP8_ BK523) hg (by simp [Value.ownBlock])); have n2_ := Aside0.mk (hb); have n3_ := Aside0.mk (ho); clear BK513; clear BK523; clear HB; have BK513 := n0_; have BK523 := n1_; have HB := n2_; have HO526 := n3_; clear n0_ n1_ n2_ n3_; clear ho hb hg hat; obtain ⟨Ao12, co12, eo12⟩ := Kd.R_slice HO526.out; subst eo12) | ((with_reducible refine gate_dst (N := 9) rfl ?_); refine box_event ?hg (N := 9) ?hd (cs := #[.slice none 0 0, .slice none 0 0, .int .i64 0, .int .i64 0, .int .i64 0, .int .i64 0, .slice none 0 0]) (t := 27) ?hr ?_; (case hd => rfl); (case hg => rfl); (case hr => first | (go_simp; done) | (go_simp; rfl)); intro gb527 hg w13 hbox hb; have n0_ := Aside0.mk (Kd.R_below (dR_ HO526) hb); have n1_ := Aside0.mk (bb_ BK513 hb); have n2_ := Aside0.mk (bb_ BK523 hb); have n3_ := Aside0.mk (below_step (dL2_ HB GE513 GE523) hb); have n4_ := Aside0.mk (hbox); have n5_ := Aside0.mk ((dS_ hg (dL2_ HB GE513 GE523) : w.heap.size ≤ gb527)); have n6_ := Aside0.mk ((dS_ hg (dL2_ HB GE513 GE523) : w.heap.size ≤ gb527)); have n7_ := Aside0.mk ((by rw [hg]; exact Nat.ne_of_lt (blk_lt (dB_ BK513)) : gb513 ≠ gb527)); have n8_ := Aside0.mk ((by rw [hg]; exact Nat.ne_of_gt (blk_lt (dB_ BK513)) : gb527 ≠ gb513)); have n9_ := Aside0.mk ((by rw [hg]; exact Nat.ne_of_lt (blk_lt (dB_ BK523)) : gb523 ≠ gb527)); have n10_ := Aside0.mk ((by rw [hg]; exact Nat.ne_of_gt (blk_lt (dB_ BK523)) : gb527 ≠ gb523)); clear HO526; clear BK513; clear BK523; clear HB; have HO526 := n0_; have BK513 := n1_; have BK523 := n2_; have HB := n3_; have BK527 := n4_; have GW527 := n5_; have GE527 := n6_; have NB513_527 := n7_; have NB527_513 := n8_; have NB523_527 := n9_; have NB527_523 := n10_; clear n0_ n1_ n2_ n3_ n4_ n5_ n6_ n7_ n8_ n9_ n10_; clear hb hbox hg; have hnb14 := NB527_513.out; have hnc14 := NB513_527.out; have hnb15 := NB527_523.out; have hnc15 := NB523_527.out; obtain ⟨hcz16_0, hcz16_1, hcz16_2, hcz16_3, hcz16_4, hcz16_5, hcz16_6, hfz16_0, hfz16_1, hfz16_2, hfz16_3, hfz16_4, hfz16_5, hfz16_6⟩ := cs7_ BK527.out))
   go_loopg [29] k (fun kq v29 w' => ∃ (x29_1 : Int) (x528001_1 : List Int) (u528001 : Value), v29 = .int .i64 x29_1 ∧ Aside0 (hinterlandref14_New.l0 kq l0 l1 l1 (l1.length : Int) x29_1 t514 t515 t516 t517 t518 t519 t520 t521 y524 x528001_1 0 0 0 0 = some (r1, r2, r3, r4, r5, r6, r7, r8, r9)) ∧ Aside0 (kq ≤ k) ∧ Aside0 (Kd.R (Kd.int .i64) 3 w' w.heap.size (fun k_ => some k_ ≠ (u528001 : Value).ownBlock) (.slice Ao12 y524.length co12) y524) ∧ Aside0 (Kd.R (Kd.int .i64) 3 w' w.heap.size (fun k_ => some k_ ≠ ((.slice Ao12 y524.length co12) : Value).ownBlock) u528001 x528001_1) ∧ Aside0 (w'.heap[gb513]? = some (.cells #[(.slice none 0 0), (.slice none 0 0), .int .i64 0, .int .i64 0, .int .i64 0, .int .i64 0, (.slice none 0 0)] 27 (0, 0))) ∧ Aside0 (w'.heap[gb523]? = some (.cells #[.int .i64 t514, .int .i64 t515, .int .i64 t516, .int .i64 t517, .int .i64 t518, .int .i64 t519, .int .i64 t520, .bool t521] 33 (0, 0))) ∧ Aside0 (w'.heap[gb527]? = some (.cells #[(.slice Ao12 y524.length co12), u528001, .int .i64 0, .int .i64 0, .int .i64 0, .int .i64 0, (.slice none 0 0)] 27 (0, 0))) ∧ Aside0 (Below w.heap.size w w'))
   case atStart => exact ⟨(0), (([] : List Int)), (.slice none 0 0), tS_, H', ⟨Nat.le_refl _⟩, ⟨by (with_reducible repeat (first | apply Kd.R_alloc | apply Kd.R_drewN | apply Kd.R_drew)); exact Kd.R_mono (far7_ (Kd.R_types HO526.out BK527.out (by decide)) gb527 (fun _ hk => hk.2) (.slice Ao12 y524.length co12) (.slice none 0 0) (.int .i64 0) (.int .i64 0) (.int .i64 0) (.int .i64 0) (.slice none 0 0)) (fun _ hk => (by simp [Value.ownBlock]))⟩, ⟨by first | exact Kd.R_nil _ _ _ _ _ | exact Kd.N_nil _ _ _ _ _ | exact Kd.V_nil _ _ _ _ _ | exact Kd.Q_nil _ _ _ _ _ | exact Kd.S_nil _ _ _ _ _⟩, ⟨dF7_ BK513 NB513_527⟩, ⟨dF7_ BK523 NB523_527⟩, ⟨dP7_ BK527⟩, ⟨dL3_ HB GE513 GE523 GE527⟩⟩
   case round =>
    clear H'
    try clear c1
    try clear c4
    try clear c4b0
    try clear c4b1
    try clear c5
    try clear hcz10_0
    try clear hcz10_1
    try clear hcz10_2
    try clear hcz10_3
    try clear hcz10_4
    try clear hcz10_5
    try clear hcz10_6
    try clear hcz10_7
    try clear hcz16_0
    try clear hcz16_1
    try clear hcz16_2
    try clear hcz16_3
    try clear hcz16_4
    try clear hcz16_5
    try clear hcz16_6
    try clear hfz10_0
    try clear hfz10_1
    try clear hfz10_2
    try clear hfz10_3
    try clear hfz10_4
    try clear hfz10_5
    try clear hfz10_6
    try clear hfz10_7
    try clear hfz16_0
    try clear hfz16_1
    try clear hfz16_2
    try clear hfz16_3
    try clear hfz16_4
    try clear hfz16_5
    try clear hfz16_6
    obtain ⟨x29_1, x528001_1, u528001, rfl, HA, HK1, HO_528000, HO_528001, BK513, BK523, BK527, HB⟩ := hrel
    cases gk with
    | zero => exact absurd HA.out (by simp [hinterlandref14_New.l0])
    | succ k1 =>
     have H := HA.out
     clear HA
     simp only [hinterlandref14_New.l0] at H
     by_cases c17 : x29_1 < (l1.length : Int)
     ·rw [if_pos c17] at H
      have c17b0 : decide (x29_1 < (l1.length : Int)) = true := decide_eq_true c17
      clear c17
      by_cases c18 : 0 ≤ x29_1
      ·rw [if_pos c18] at H
       have c18b0 : decide (0 ≤ x29_1) = true := decide_eq_true c18
       clear c18
       by_cases c19 : x29_1 < (l1.length : Int)
       ·rw [if_pos c19] at H
        have c19b0 : decide (x29_1 < (l1.length : Int)) = true := decide_eq_true c19
        clear c19
        by_cases c20 : 0 ≤ (rd l1 x29_1)
        ·rw [if_pos c20] at H
         have c20b0 : decide (0 ≤ (rd l1 x29_1)) = true := decide_eq_true c20
         clear c20
         by_cases c21 : (rd l1 x29_1) < (l0.length : Int)
         ·rw [if_pos c21] at H
          have c21b0 : decide ((rd l1 x29_1) < (l0.length : Int)) = true := decide_eq_true c21
          clear c21
          replace H := Option.bind_eq_some_iff.mp H
          obtain ⟨t530, A220, H⟩ := H
          replace H : (if x528001_1.length < 17592186044416 then (hinterlandref14_New.l0 k1 l0 l1 l1 (l1.length : Int) (wrap64 (x29_1 + 1)) t514 t515 t516 t517 t518 t519 t520 t521 y524 (x528001_1 ++ [t530]) 0 0 0 0) else (none)) = some (r1, r2, r3, r4, r5, r6, r7, r8, r9) := H
          have A22 := Aside0.mk A220
          clear A220
          by_cases c23 : x528001_1.length < 17592186044416
          ·rw [if_pos c23] at H
           have LMc23 := Aside0.mk c23
           clear c23
           obtain ⟨y531, hy531⟩ : ∃ y_ : List Int, y_ = (x528001_1 ++ [t530]) := ⟨_, rfl⟩
           replace H : (hinterlandref14_New.l0 k1 l0 l1 l1 (l1.length : Int) (wrap64 (x29_1 + 1)) t514 t515 t516 t517 t518 t519 t520 t521 y524 y531 0 0 0 0) = some (r1, r2, r3, r4, r5, r6, r7, r8, r9) := by first | (rw [hy531]; with_reducible exact H) | (have H2_ := (Option.bind_some _ _).symm.trans H; rw [hy531]; with_reducible exact H2_) | (have H2_ := (Option.bind_some _ _).symm.trans H; with_reducible exact H2_) | with_reducible exact H | (rw [hy531]; exact H) | exact H
           have Ny531 := Aside0.mk hy531
           clear hy531
           have H' := Aside0.mk H
           clear H
           have p528 : 0 ≤ (x29_1 : Int) := of_decide_eq_true tW_
           have q528 : x29_1 < (l1.length : Int) := of_decide_eq_true tW_
           obtain ⟨ad528, e528, hx528_0⟩ := Kd.at_int HR1.out x29_1 p528 q528
           cases e528
           replace hx528_0 := bc_ HB hx528_0
           replace p528 := eq_true p528
           replace q528 := eq_true q528
           try go_wp2
           have n0_ := Aside0.mk (Kd.R_drew HO_528000.out)
           have n1_ := Aside0.mk (Kd.R_drew HO_528001.out)
           have n2_ := Aside0.mk (blk_drew BK513.out)
           have n3_ := Aside0.mk (blk_drew BK523.out)
           have n4_ := Aside0.mk (blk_drew BK527.out)
           have n5_ := Aside0.mk (below_drew1 HB.out)
           clear HO_528000
           clear HO_528001
           clear BK513
           clear BK523
           clear BK527
           clear HB
           have HO_528000 := n0_
           have HO_528001 := n1_
           have BK513 := n2_
           have BK523 := n3_
           have BK527 := n4_
           have HB := n5_
           clear n0_ n1_ n2_ n3_ n4_ n5_
           have p529 : 0 ≤ ((rd l1 x29_1) : Int) := of_decide_eq_true tW_
           have q529 : (rd l1 x29_1) < (l0.length : Int) := of_decide_eq_true tW_
           obtain ⟨ad529, e529, hx529_0, hx529_1, hx529_2, hx529_3, hx529_4, hx529_5, hx529_6, hx529_7, hx529_8, hx529_9, hx529_10, hx529_11, hx529_12, hx529_13⟩ := at_T54 HR0.out (rd l1 x29_1) p529 q529
           have hw529_13 := hx529_13
           have hw529_12 := hx529_12
           have hw529_11 := hx529_11
           have hw529_10 := hx529_10
           have hw529_9 := hx529_9
           have hw529_8 := hx529_8
           have hw529_7 := hx529_7
           have hw529_6 := hx529_6
           have hw529_5 := hx529_5
           have hw529_4 := hx529_4
           have hw529_3 := hx529_3
           have hw529_2 := hx529_2
           have hw529_1 := hx529_1
           have hw529_0 := hx529_0
           cases e529
           replace hx529_0 := bc_ HB hx529_0
           replace hx529_1 := bc_ HB hx529_1
           replace hx529_2 := bc_ HB hx529_2
           replace hx529_3 := bc_ HB hx529_3
           replace hx529_4 := bc_ HB hx529_4
           replace hx529_5 := bc_ HB hx529_5
           replace hx529_6 := bc_ HB hx529_6
           replace hx529_7 := bc_ HB hx529_7
           replace hx529_8 := bc_ HB hx529_8
           replace hx529_9 := bc_ HB hx529_9
           replace hx529_10 := bc_ HB hx529_10
           replace hx529_11 := bc_ HB hx529_11
           replace hx529_12 := bc_ HB hx529_12
           replace hx529_13 := bc_ HB hx529_13
           replace p529 := eq_true p529
           replace q529 := eq_true q529
           refine start_ (n := 11) (S := fun w' => w'.cell? ⟨gb527, 0, none⟩ = some (.slice Ao12 y524.length co12) ∧ w'.cell? ⟨gb527, 1, none⟩ = some (u528001) ∧ w'.cell? ⟨gb527, 2, none⟩ = some (.int .i64 0) ∧ w'.cell? ⟨gb527, 3, none⟩ = some (.int .i64 0) ∧ w'.cell? ⟨gb527, 4, none⟩ = some (.int .i64 0) ∧ w'.cell? ⟨gb527, 5, none⟩ = some (.int .i64 0) ∧ w'.cell? ⟨gb527, 6, none⟩ = some (.slice none 0 0) ∧ w'.cell? (ad529.add (((rd l1 x29_1)).toNat * 14)) = some (.string ((rd_T54 l0 (rd l1 x29_1)).f0)) ∧ w'.cell? ⟨(ad529.add (((rd l1 x29_1)).toNat * 14)).block, (ad529.add (((rd l1 x29_1)).toNat * 14)).off + 1, none⟩ = some (.int .i64 ((rd_T54 l0 (rd l1 x29_1)).f1)) ∧ w'.cell? ⟨(ad529.add (((rd l1 x29_1)).toNat * 14)).block, (ad529.add (((rd l1 x29_1)).toNat * 14)).off + 2, none⟩ = some (.int .i64 ((rd_T54 l0 (rd l1 x29_1)).f2)) ∧ w'.cell? ⟨(ad529.add (((rd l1 x29_1)).toNat * 14)).block, (ad529.add (((rd l1 x29_1)).toNat * 14)).off + 3, none⟩ = some (.int .i64 ((rd_T54 l0 (rd l1 x29_1)).f3)) ∧ w'.cell? ⟨(ad529.add (((rd l1 x29_1)).toNat * 14)).block, (ad529.add (((rd l1 x29_1)).toNat * 14)).off + 4, none⟩ = some (.int .i64 ((rd_T54 l0 (rd l1 x29_1)).f4)) ∧ w'.cell? ⟨(ad529.add (((rd l1 x29_1)).toNat * 14)).block, (ad529.add (((rd l1 x29_1)).toNat * 14)).off + 5, none⟩ = some (.int .i64 ((rd_T54 l0 (rd l1 x29_1)).f5)) ∧ w'.cell? ⟨(ad529.add (((rd l1 x29_1)).toNat * 14)).block, (ad529.add (((rd l1 x29_1)).toNat * 14)).off + 6, none⟩ = some (.int .i64 ((rd_T54 l0 (rd l1 x29_1)).f6)) ∧ w'.cell? ⟨(ad529.add (((rd l1 x29_1)).toNat * 14)).block, (ad529.add (((rd l1 x29_1)).toNat * 14)).off + 7, none⟩ = some (.int .i64 ((rd_T54 l0 (rd l1 x29_1)).f7)) ∧ w'.cell? ⟨(ad529.add (((rd l1 x29_1)).toNat * 14)).block, (ad529.add (((rd l1 x29_1)).toNat * 14)).off + 8, none⟩ = some (.int .i64 ((rd_T54 l0 (rd l1 x29_1)).f8)) ∧ w'.cell? ⟨(ad529.add (((rd l1 x29_1)).toNat * 14)).block, (ad529.add (((rd l1 x29_1)).toNat * 14)).off + 9, none⟩ = some (.int .i64 ((rd_T54 l0 (rd l1 x29_1)).f9)) ∧ w'.cell? ⟨(ad529.add (((rd l1 x29_1)).toNat * 14)).block, (ad529.add (((rd l1 x29_1)).toNat * 14)).off + 10, none⟩ = some (.int .i64 ((rd_T54 l0 (rd l1 x29_1)).f10)) ∧ w'.cell? ⟨(ad529.add (((rd l1 x29_1)).toNat * 14)).block, (ad529.add (((rd l1 x29_1)).toNat * 14)).off + 11, none⟩ = some (.int .i64 ((rd_T54 l0 (rd l1 x29_1)).f11)) ∧ w'.cell? ⟨(ad529.add (((rd l1 x29_1)).toNat * 14)).block, (ad529.add (((rd l1 x29_1)).toNat * 14)).off + 12, none⟩ = some (.int .i64 ((rd_T54 l0 (rd l1 x29_1)).f12)) ∧ w'.cell? ⟨(ad529.add (((rd l1 x29_1)).toNat * 14)).block, (ad529.add (((rd l1 x29_1)).toNat * 14)).off + 13, none⟩ = some (.bool ((rd_T54 l0 (rd l1 x29_1)).f13))) (ds := [10]) #[false, false, false, false, false, false, false, false, false, false, false] (by kernel_rfl) rfl rfl ⟨(blk_cell BK527.out 0).trans rfl, (blk_cell BK527.out 1).trans rfl, (blk_cell BK527.out 2).trans rfl, (blk_cell BK527.out 3).trans rfl, (blk_cell BK527.out 4).trans rfl, (blk_cell BK527.out 5).trans rfl, (blk_cell BK527.out 6).trans rfl, ((HB.out.cell (World.block_lt_of_cell? w _ hw529_0)).trans hw529_0), ((HB.out.cell (World.block_lt_of_cell? w _ hw529_1)).trans hw529_1), ((HB.out.cell (World.block_lt_of_cell? w _ hw529_2)).trans hw529_2), ((HB.out.cell (World.block_lt_of_cell? w _ hw529_3)).trans hw529_3), ((HB.out.cell (World.block_lt_of_cell? w _ hw529_4)).trans hw529_4), ((HB.out.cell (World.block_lt_of_cell? w _ hw529_5)).trans hw529_5), ((HB.out.cell (World.block_lt_of_cell? w _ hw529_6)).trans hw529_6), ((HB.out.cell (World.block_lt_of_cell? w _ hw529_7)).trans hw529_7), ((HB.out.cell (World.block_lt_of_cell? w _ hw529_8)).trans hw529_8), ((HB.out.cell (World.block_lt_of_cell? w _ hw529_9)).trans hw529_9), ((HB.out.cell (World.block_lt_of_cell? w _ hw529_10)).trans hw529_10), ((HB.out.cell (World.block_lt_of_cell? w _ hw529_11)).trans hw529_11), ((HB.out.cell (World.block_lt_of_cell? w _ hw529_12)).trans hw529_12), ((HB.out.cell (World.block_lt_of_cell? w _ hw529_13)).trans hw529_13)⟩ (fun hHeld => ?_); refine with_tabW hinterlandref14_New.tab8 hinterlandref14_New.bits8 (fun HT_ HW_ => ?_)
           generalize wr.drew = w24 at HO_528000 HO_528001 BK513 BK523 BK527 HB hx529_0 hx529_1 hx529_10 hx529_11 hx529_12 hx529_13 hx529_2 hx529_3 hx529_4 hx529_5 hx529_6 hx529_7 hx529_8 hx529_9 hHeld ⊢
           refine pure_ (i := 0) (N := some 33) (v := ?_) (a' := ?_) #[true, false, false, false, false, false, false, false, false, false, false] rfl rfl (any_of HT_.out (by kernel_rfl)) (fun _ _ _ h => h) (Or.inl ⟨by rfl, ?_⟩) ?_ ?_
           rotate_left
           ·intro w'
            go_simp
            with_reducible rfl
           rotate_left
           ·simp only [Act.put, sI_, s0_, sS_, i64_w, i32_w]
            rfl
           refine pure_ (i := 2) (N := some 35) (v := ?_) (a' := ?_) #[true, false, true, false, false, false, false, false, false, false, false] rfl rfl (any_of HT_.out (by kernel_rfl)) (fun _ _ _ h => h) (Or.inl ⟨by rfl, ?_⟩) ?_ ?_
           rotate_left
           ·intro w'
            go_simp
            with_reducible rfl
           rotate_left
           ·simp only [Act.put, sI_, s0_, sS_, i64_w, i32_w]
            rfl
           refine pure_ (i := 3) (N := some 36) (v := ?_) (a' := ?_) #[true, false, true, true, false, false, false, false, false, false, false] rfl rfl (any_of HT_.out (by kernel_rfl)) (fun _ _ _ h => h) (Or.inl ⟨by rfl, ?_⟩) ?_ ?_
           rotate_left
           ·intro w'
            go_simp
            with_reducible rfl
           rotate_left
           ·simp only [Act.put, sI_, s0_, sS_, i64_w, i32_w]
            rfl
           refine pure_ (i := 4) (N := some 37) (v := ?_) (a' := ?_) #[true, false, true, true, true, false, false, false, false, false, false] rfl rfl (any_of HT_.out (by kernel_rfl)) (fun _ _ _ h => h) (Or.inl ⟨by rfl, ?_⟩) ?_ ?_
           rotate_left
           ·intro w'
            go_simp
            with_reducible rfl
           rotate_left
           ·simp only [Act.put, sI_, s0_, sS_, i64_w, i32_w]
            rfl
           refine take_ (i := 1) (N := some 34) (v := ?_) (a' := ?_) #[true, true, true, true, true, false, false, false, false, false, false] rfl rfl (take_ofW HT_.out HW_.out (by kernel_rfl)) (fun _ _ _ h => h) (Or.inl ⟨by rfl, ?_⟩) hHeld ?_ ?_
           rotate_left
           ·rintro w' ⟨s0, s1, s2, s3, s4, s5, s6, s7, s8, s9, s10, s11, s12, s13, s14, s15, s16, s17, s18, s19, s20⟩
            go_simp
            with_reducible rfl
           rotate_left
           ·simp only [Act.put, sI_, s0_, sS_, i64_w, i32_w]
            rfl
           refine take_ (i := 5) (N := some 38) (v := ?_) (a' := ?_) #[true, true, true, true, true, true, false, false, false, false, false] rfl rfl (take_ofW HT_.out HW_.out (by kernel_rfl)) (fun _ _ _ h => h) (Or.inl ⟨by rfl, ?_⟩) hHeld ?_ ?_
           rotate_left
           ·rintro w' ⟨s0, s1, s2, s3, s4, s5, s6, s7, s8, s9, s10, s11, s12, s13, s14, s15, s16, s17, s18, s19, s20⟩
            go_simp
            with_reducible rfl
           rotate_left
           ·simp only [Act.put, sI_, s0_, sS_, i64_w, i32_w]
            rfl
           refine one_ (i := 6) (N := some 39) #[true, true, true, true, true, true, true, false, false, false, false] rfl rfl (one_of HT_.out (by kernel_rfl)) (by decide) (fun K hK => ?_)
           refine goes_ Try.func50 (by kernel_rfl) rfl #[.agg #[.string ((rd_T54 l0 (rd l1 x29_1)).f0), .int .i64 ((rd_T54 l0 (rd l1 x29_1)).f1), .int .i64 ((rd_T54 l0 (rd l1 x29_1)).f2), .int .i64 ((rd_T54 l0 (rd l1 x29_1)).f3), .int .i64 ((rd_T54 l0 (rd l1 x29_1)).f4), .int .i64 ((rd_T54 l0 (rd l1 x29_1)).f5), .int .i64 ((rd_T54 l0 (rd l1 x29_1)).f6), .int .i64 ((rd_T54 l0 (rd l1 x29_1)).f7), .int .i64 ((rd_T54 l0 (rd l1 x29_1)).f8), .int .i64 ((rd_T54 l0 (rd l1 x29_1)).f9), .int .i64 ((rd_T54 l0 (rd l1 x29_1)).f10), .int .i64 ((rd_T54 l0 (rd l1 x29_1)).f11), .int .i64 ((rd_T54 l0 (rd l1 x29_1)).f12), .bool ((rd_T54 l0 (rd l1 x29_1)).f13)]] (by rfl) rfl rfl tA_ ?_
           with_reducible refine (hinterlandref14_carries.calls ((rd_T54 l0 (rd l1 x29_1)).f0) ((rd_T54 l0 (rd l1 x29_1)).f1) ((rd_T54 l0 (rd l1 x29_1)).f2) ((rd_T54 l0 (rd l1 x29_1)).f3) ((rd_T54 l0 (rd l1 x29_1)).f4) ((rd_T54 l0 (rd l1 x29_1)).f5) ((rd_T54 l0 (rd l1 x29_1)).f6) ((rd_T54 l0 (rd l1 x29_1)).f7) ((rd_T54 l0 (rd l1 x29_1)).f8) ((rd_T54 l0 (rd l1 x29_1)).f9) ((rd_T54 l0 (rd l1 x29_1)).f10) ((rd_T54 l0 (rd l1 x29_1)).f11) ((rd_T54 l0 (rd l1 x29_1)).f12) ((rd_T54 l0 (rd l1 x29_1)).f13) t530 _ A22.out).mono ?_
           rintro e w25 ⟨rfl, hb⟩
           refine ⟨_, rfl, ?_⟩
           have n0_ := Aside0.mk (Kd.R_below (dR_ HO_528000) hb)
           have n1_ := Aside0.mk (Kd.R_below (dR_ HO_528001) hb)
           have n2_ := Aside0.mk (bb_ BK513 hb)
           have n3_ := Aside0.mk (bb_ BK523 hb)
           have n4_ := Aside0.mk (bb_ BK527 hb)
           have n5_ := Aside0.mk (below_step (dL3_ HB GE513 GE523 GE527) hb)
           clear HO_528000
           clear HO_528001
           clear BK513
           clear BK523
           clear BK527
           clear HB
           have HO_528000 := n0_
           have HO_528001 := n1_
           have BK513 := n2_
           have BK523 := n3_
           have BK527 := n4_
           have HB := n5_
           clear n0_ n1_ n2_ n3_ n4_ n5_
           (try clear hb)
           (try clear hb2)
           (try clear hk)
           (try clear hi)
           refine hK.out _ _ ⟨(blk_cell BK527.out 0).trans rfl, (blk_cell BK527.out 1).trans rfl, (blk_cell BK527.out 2).trans rfl, (blk_cell BK527.out 3).trans rfl, (blk_cell BK527.out 4).trans rfl, (blk_cell BK527.out 5).trans rfl, (blk_cell BK527.out 6).trans rfl, ((HB.out.cell (World.block_lt_of_cell? w _ hw529_0)).trans hw529_0), ((HB.out.cell (World.block_lt_of_cell? w _ hw529_1)).trans hw529_1), ((HB.out.cell (World.block_lt_of_cell? w _ hw529_2)).trans hw529_2), ((HB.out.cell (World.block_lt_of_cell? w _ hw529_3)).trans hw529_3), ((HB.out.cell (World.block_lt_of_cell? w _ hw529_4)).trans hw529_4), ((HB.out.cell (World.block_lt_of_cell? w _ hw529_5)).trans hw529_5), ((HB.out.cell (World.block_lt_of_cell? w _ hw529_6)).trans hw529_6), ((HB.out.cell (World.block_lt_of_cell? w _ hw529_7)).trans hw529_7), ((HB.out.cell (World.block_lt_of_cell? w _ hw529_8)).trans hw529_8), ((HB.out.cell (World.block_lt_of_cell? w _ hw529_9)).trans hw529_9), ((HB.out.cell (World.block_lt_of_cell? w _ hw529_10)).trans hw529_10), ((HB.out.cell (World.block_lt_of_cell? w _ hw529_11)).trans hw529_11), ((HB.out.cell (World.block_lt_of_cell? w _ hw529_12)).trans hw529_12), ((HB.out.cell (World.block_lt_of_cell? w _ hw529_13)).trans hw529_13)⟩ (fun hHeld => ?_)
           clear hK K
           refine norm_ (a' := ?_) ?_ ?_
           rotate_left
           ·show Act.put _ (some 39) _ = _
            simp only [Act.put, sI_, s0_, sS_, i64_w, i32_w]
            rfl
           refine one_ (i := 7) (N := some 40) #[true, true, true, true, true, true, true, true, false, false, false] rfl rfl (one_of HT_.out (by kernel_rfl)) (by decide) (fun K hK => ?_)
           refine value_ (w1 := ?_) (v := ?_) (by rfl) rfl ?_ ?_
           rotate_left 2
           ·go_simp
            constructor
            ·rfl
            ·rfl
           refine hK.out _ _ ⟨(blk_cell (blk_alloc BK527.out _) 0).trans rfl, (blk_cell (blk_alloc BK527.out _) 1).trans rfl, (blk_cell (blk_alloc BK527.out _) 2).trans rfl, (blk_cell (blk_alloc BK527.out _) 3).trans rfl, (blk_cell (blk_alloc BK527.out _) 4).trans rfl, (blk_cell (blk_alloc BK527.out _) 5).trans rfl, (blk_cell (blk_alloc BK527.out _) 6).trans rfl, (World.cell?_alloc_lt _ _ _ (World.block_lt_of_cell? _ _ (((HB.out.cell (World.block_lt_of_cell? w _ hw529_0)).trans hw529_0)))).trans (((HB.out.cell (World.block_lt_of_cell? w _ hw529_0)).trans hw529_0)), (World.cell?_alloc_lt _ _ _ (World.block_lt_of_cell? _ _ (((HB.out.cell (World.block_lt_of_cell? w _ hw529_1)).trans hw529_1)))).trans (((HB.out.cell (World.block_lt_of_cell? w _ hw529_1)).trans hw529_1)), (World.cell?_alloc_lt _ _ _ (World.block_lt_of_cell? _ _ (((HB.out.cell (World.block_lt_of_cell? w _ hw529_2)).trans hw529_2)))).trans (((HB.out.cell (World.block_lt_of_cell? w _ hw529_2)).trans hw529_2)), (World.cell?_alloc_lt _ _ _ (World.block_lt_of_cell? _ _ (((HB.out.cell (World.block_lt_of_cell? w _ hw529_3)).trans hw529_3)))).trans (((HB.out.cell (World.block_lt_of_cell? w _ hw529_3)).trans hw529_3)), (World.cell?_alloc_lt _ _ _ (World.block_lt_of_cell? _ _ (((HB.out.cell (World.block_lt_of_cell? w _ hw529_4)).trans hw529_4)))).trans (((HB.out.cell (World.block_lt_of_cell? w _ hw529_4)).trans hw529_4)), (World.cell?_alloc_lt _ _ _ (World.block_lt_of_cell? _ _ (((HB.out.cell (World.block_lt_of_cell? w _ hw529_5)).trans hw529_5)))).trans (((HB.out.cell (World.block_lt_of_cell? w _ hw529_5)).trans hw529_5)), (World.cell?_alloc_lt _ _ _ (World.block_lt_of_cell? _ _ (((HB.out.cell (World.block_lt_of_cell? w _ hw529_6)).trans hw529_6)))).trans (((HB.out.cell (World.block_lt_of_cell? w _ hw529_6)).trans hw529_6)), (World.cell?_alloc_lt _ _ _ (World.block_lt_of_cell? _ _ (((HB.out.cell (World.block_lt_of_cell? w _ hw529_7)).trans hw529_7)))).trans (((HB.out.cell (World.block_lt_of_cell? w _ hw529_7)).trans hw529_7)), (World.cell?_alloc_lt _ _ _ (World.block_lt_of_cell? _ _ (((HB.out.cell (World.block_lt_of_cell? w _ hw529_8)).trans hw529_8)))).trans (((HB.out.cell (World.block_lt_of_cell? w _ hw529_8)).trans hw529_8)), (World.cell?_alloc_lt _ _ _ (World.block_lt_of_cell? _ _ (((HB.out.cell (World.block_lt_of_cell? w _ hw529_9)).trans hw529_9)))).trans (((HB.out.cell (World.block_lt_of_cell? w _ hw529_9)).trans hw529_9)), (World.cell?_alloc_lt _ _ _ (World.block_lt_of_cell? _ _ (((HB.out.cell (World.block_lt_of_cell? w _ hw529_10)).trans hw529_10)))).trans (((HB.out.cell (World.block_lt_of_cell? w _ hw529_10)).trans hw529_10)), (World.cell?_alloc_lt _ _ _ (World.block_lt_of_cell? _ _ (((HB.out.cell (World.block_lt_of_cell? w _ hw529_11)).trans hw529_11)))).trans (((HB.out.cell (World.block_lt_of_cell? w _ hw529_11)).trans hw529_11)), (World.cell?_alloc_lt _ _ _ (World.block_lt_of_cell? _ _ (((HB.out.cell (World.block_lt_of_cell? w _ hw529_12)).trans hw529_12)))).trans (((HB.out.cell (World.block_lt_of_cell? w _ hw529_12)).trans hw529_12)), (World.cell?_alloc_lt _ _ _ (World.block_lt_of_cell? _ _ (((HB.out.cell (World.block_lt_of_cell? w _ hw529_13)).trans hw529_13)))).trans (((HB.out.cell (World.block_lt_of_cell? w _ hw529_13)).trans hw529_13))⟩ (fun hHeld => ?_)
           clear hK K
           refine norm_ (a' := ?_) ?_ ?_
           rotate_left
           ·show Act.put _ (some 40) _ = _
            simp only [Act.put, sI_, s0_, sS_, i64_w, i32_w]
            rfl
           refine one_ (i := 8) (N := some 41) #[true, true, true, true, true, true, true, true, true, false, false] rfl rfl (one_of HT_.out (by kernel_rfl)) (by decide) (fun K hK => ?_)
           refine Kd.R_append_step (Kd.int .i64) (w0 := w) w.heap.size (by rfl) (.tmp 34) (.tmp 40) 24 3 (.int .i64 0) 8 rfl Try.underlying24 info3 rfl (by decide) (by omega) u528001 x528001_1 t530 [.int .i64 t530] (fun k_ => some k_ ≠ (.slice Ao12 y524.length co12 : Value).ownBlock) (fun _ => False) rfl rfl ?aP (fun _ hk => hk.elim) ?aF ?aO ?aB ?aS ?aL ?_
           (case aP => exact rfl)
           (case aB => exact (dL3_ HB GE513 GE523 GE527))
           (case aF => exact (fun k_ hk => Kd.fresh' (Kd.R_lt (dR_ HO_528000)) k_ hk))
           (case aO => exact (dR_ HO_528001))
           (case aS => exact (below_size (dL3_ HB GE513 GE523 GE527)))
           (case aL => have := LMc23.out; omega)
           intro v532 w26 ho hb hg hat
           rw [← Ny531.out] at ho
           have n0_ := Aside0.mk (Kd.R_after (ok := (fun _ => True)) (by (with_reducible repeat (first | apply Kd.R_alloc | apply Kd.R_drewN | apply Kd.R_drew)); exact Kd.R_mono HO_528000.out (fun _ hk => ⟨trivial, hk⟩)) hg hat)
           have n1_ := Aside0.mk (blk_grown (g := gb513) (o := .cells #[.slice none 0 0, .slice none 0 0, .int .i64 0, .int .i64 0, .int .i64 0, .int .i64 0, .slice none 0 0] 27 (0, 0)) (dB_ BK513) hg (Kd.R_ne HO_528001.out BK513.out (by decide)))
           have n2_ := Aside0.mk (blk_grown (g := gb523) (o := .cells #[.int .i64 t514, .int .i64 t515, .int .i64 t516, .int .i64 t517, .int .i64 t518, .int .i64 t519, .int .i64 t520, .bool t521] 33 (0, 0)) (dB_ BK523) hg (Kd.R_ne HO_528001.out BK523.out (by decide)))
           have n3_ := Aside0.mk (blk_grown (g := gb527) (o := .cells #[.slice Ao12 y524.length co12, u528001, .int .i64 0, .int .i64 0, .int .i64 0, .int .i64 0, .slice none 0 0] 27 (0, 0)) (dB_ BK527) hg (Kd.R_ne HO_528001.out BK527.out (by decide)))
           have n4_ := Aside0.mk (hb)
           have n5_ := Aside0.mk (ho)
           clear HO_528000
           clear BK513
           clear BK523
           clear BK527
           clear HB
           clear HO_528001
           have HO_528000 := n0_
           have BK513 := n1_
           have BK523 := n2_
           have BK527 := n3_
           have HB := n4_
           have HO533 := n5_
           clear n0_ n1_ n2_ n3_ n4_ n5_
           clear ho hb hg hat
           obtain ⟨Ao27, co27, eo27⟩ := Kd.R_slice HO533.out
           (first | subst eo27 | (injection eo27 with f1_ f2_ f3_; have f4_ := f1_.symm; have f5_ := f3_.symm; clear f1_ f2_ f3_; subst f4_; subst f5_))
           refine hK.out _ _ ⟨(blk_cell BK527.out 0).trans rfl, (blk_cell BK527.out 1).trans rfl, (blk_cell BK527.out 2).trans rfl, (blk_cell BK527.out 3).trans rfl, (blk_cell BK527.out 4).trans rfl, (blk_cell BK527.out 5).trans rfl, (blk_cell BK527.out 6).trans rfl, ((HB.out.cell (World.block_lt_of_cell? w _ hw529_0)).trans hw529_0), ((HB.out.cell (World.block_lt_of_cell? w _ hw529_1)).trans hw529_1), ((HB.out.cell (World.block_lt_of_cell? w _ hw529_2)).trans hw529_2), ((HB.out.cell (World.block_lt_of_cell? w _ hw529_3)).trans hw529_3), ((HB.out.cell (World.block_lt_of_cell? w _ hw529_4)).trans hw529_4), ((HB.out.cell (World.block_lt_of_cell? w _ hw529_5)).trans hw529_5), ((HB.out.cell (World.block_lt_of_cell? w _ hw529_6)).trans hw529_6), ((HB.out.cell (World.block_lt_of_cell? w _ hw529_7)).trans hw529_7), ((HB.out.cell (World.block_lt_of_cell? w _ hw529_8)).trans hw529_8), ((HB.out.cell (World.block_lt_of_cell? w _ hw529_9)).trans hw529_9), ((HB.out.cell (World.block_lt_of_cell? w _ hw529_10)).trans hw529_10), ((HB.out.cell (World.block_lt_of_cell? w _ hw529_11)).trans hw529_11), ((HB.out.cell (World.block_lt_of_cell? w _ hw529_12)).trans hw529_12), ((HB.out.cell (World.block_lt_of_cell? w _ hw529_13)).trans hw529_13)⟩ (fun hHeld => ?_)
           clear hK K
           refine norm_ (a' := ?_) ?_ ?_
           rotate_left
           ·show Act.put _ (some 41) _ = _
            simp only [Act.put, sI_, s0_, sS_, i64_w, i32_w]
            rfl
           refine pure_ (i := 9) (N := some 42) (v := ?_) (a' := ?_) #[true, true, true, true, true, true, true, true, true, true, false] rfl rfl (any_of HT_.out (by kernel_rfl)) (fun _ _ _ h => h) (Or.inl ⟨by rfl, ?_⟩) ?_ ?_
           rotate_left
           ·intro w'
            go_simp
            with_reducible rfl
           rotate_left
           ·simp only [Act.put, sI_, s0_, sS_, i64_w, i32_w]
            rfl
           refine last_ (i := 10) (N := none) #[true, true, true, true, true, true, true, true, true, true, true] rfl rfl (one_of HT_.out (by kernel_rfl)) (by decide) (fun K hK => ?_)
           have hs28 : w26.cell? ⟨gb527, 1, none⟩ = some (u528001) := (blk_cell BK527.out 1).trans rfl
           have hfs28 := blk_frozen BK527.out 1
           have hns28_0 := NB513_527.out
           have hns28_1 := NB523_527.out
           have hms28_0 := NB527_513.out
           have hms28_1 := NB527_523.out
           refine skip_ (w1 := ?_) (by rfl) rfl ?_ ?_
           rotate_left
           ·go_simp
            rfl
           refine hK.out _ _ ?_
           clear hK K
           refine done_ (done_of HT_.out (by kernel_rfl)) ?_
           try go_wp2
           go_roundg k1
           case measure => have := HK1.out; omega
           case rel => exact ⟨(wrap64 (x29_1 + 1)), (y531), (.slice Ao27 y531.length co27), tS_, H', ⟨by have := HK1.out; omega⟩, ⟨by (with_reducible repeat (first | apply Kd.R_alloc | apply Kd.R_drewN | apply Kd.R_drew)); exact Kd.R_mono (Kd.R_far (p := ⟨gb527, 1, none⟩) (Kd.R_types HO_528000.out BK527.out (by decide)) (fun _ hk => hk.2) (.slice Ao27 y531.length co27)) (fun _ hk => hk.1.2)⟩, ⟨by (with_reducible repeat (first | apply Kd.R_alloc | apply Kd.R_drewN | apply Kd.R_drew)); exact Kd.R_mono (Kd.R_far (p := ⟨gb527, 1, none⟩) (Kd.R_types HO533.out BK527.out (by decide)) (fun _ hk => hk.2) (.slice Ao27 y531.length co27)) (fun _ hk => hk.1)⟩, ⟨by (with_reducible repeat (first | refine blk_drewN ?_ _ | refine blk_drew ?_ | refine blk_alloc ?_ _)); refine blk_far ?_ NB513_527.out _; (with_reducible repeat (first | refine blk_drewN ?_ _ | refine blk_drew ?_ | refine blk_alloc ?_ _)); exact BK513.out⟩, ⟨by (with_reducible repeat (first | refine blk_drewN ?_ _ | refine blk_drew ?_ | refine blk_alloc ?_ _)); refine blk_far ?_ NB523_527.out _; (with_reducible repeat (first | refine blk_drewN ?_ _ | refine blk_drew ?_ | refine blk_alloc ?_ _)); exact BK523.out⟩, ⟨by (with_reducible repeat (first | refine blk_drewN ?_ _ | refine blk_drew ?_ | refine blk_alloc ?_ _)); refine blk_put (cs := #[.slice Ao12 y524.length co12, u528001, .int .i64 0, .int .i64 0, .int .i64 0, .int .i64 0, .slice none 0 0]) ?_ 1 _ rfl; (with_reducible repeat (first | refine blk_drewN ?_ _ | refine blk_drew ?_ | refine blk_alloc ?_ _)); exact BK527.out⟩, ⟨dL3_ HB GE513 GE523 GE527⟩⟩
          ·rw [if_neg c23] at H
           exact absurd H (by simp)
         ·rw [if_neg c21] at H
          exact absurd H (by simp)
        ·rw [if_neg c20] at H
         exact absurd H (by simp)
       ·rw [if_neg c19] at H
        exact absurd H (by simp)
      ·rw [if_neg c18] at H
       exact absurd H (by simp)
     ·rw [if_neg c17] at H
      have c17b0 : decide (x29_1 < (l1.length : Int)) = false := decide_eq_false c17
      clear c17
      replace H := Option.bind_eq_some_iff.mp H
      obtain ⟨⟨t534, t535⟩, A290, H⟩ := H
      replace H : (some (y524, x528001_1, 0, 0, t534, 0, ([] : List (S69)), t519, 0)) = some (r1, r2, r3, r4, r5, r6, r7, r8, r9) := H
      have A29 := Aside0.mk A290
      clear A290
      simp only [Option.some.injEq, Prod.mk.injEq] at H
      obtain ⟨rfl, rfl, rfl, rfl, rfl, rfl, rfl, rfl, rfl⟩ := H
      try go_wp2_with (first | ((with_reducible refine gate_callee (f := 51) rfl ?_); refine goesL_ (some 47) rfl rfl Try.func51 (by kernel_rfl) rfl #[.slice A0 l0.length c0, .slice A1 l1.length c1] rfl tA_ ?_; (with_reducible refine (hinterlandref14_least.calls k1 _ _ l0 _ _ l1 t534 t535 _ ?side1 ?side2 ?side3 ?side4 A29.out).mono ?_); (case side1 => exact dC_ HR0 HB); (case side2 => exact HC0.out); (case side3 => exact dC_ HR1 HB); (case side4 => exact HC1.out); rintro e w30 ⟨rfl, hb⟩; refine ⟨_, rfl, ?_⟩; have n0_ := Aside0.mk (Kd.R_below (dR_ HO_528000) hb); have n1_ := Aside0.mk (Kd.R_below (dR_ HO_528001) hb); have n2_ := Aside0.mk (bb_ BK513 hb); have n3_ := Aside0.mk (bb_ BK523 hb); have n4_ := Aside0.mk (bb_ BK527 hb); have n5_ := Aside0.mk (below_step (dL3_ HB GE513 GE523 GE527) hb); clear HO_528000; clear HO_528001; clear BK513; clear BK523; clear BK527; clear HB; have HO_528000 := n0_; have HO_528001 := n1_; have BK513 := n2_; have BK523 := n3_; have BK527 := n4_; have HB := n5_; clear n0_ n1_ n2_ n3_ n4_ n5_; (try clear hb); (try clear hb2); (try clear hk); (try clear hi); have hnb31 := NB527_513.out; have hnc31 := NB513_527.out; have hnb32 := NB527_523.out; have hnc32 := NB523_527.out; obtain ⟨hcz33_0, hcz33_1, hcz33_2, hcz33_3, hcz33_4, hcz33_5, hcz33_6, hfz33_0, hfz33_1, hfz33_2, hfz33_3, hfz33_4, hfz33_5, hfz33_6⟩ := cs7_ BK527.out))
      have n0_ : Aside0 (Kd.R (Kd.int .i64) 3 (w30.setCell ⟨gb527, 4, none⟩ (.int .i64 t534)) w.heap.size (fun k_ => some k_ ≠ (u528001 : Value).ownBlock) (.slice Ao12 y524.length co12) y524) := ⟨by (with_reducible repeat (first | apply Kd.R_alloc | apply Kd.R_drewN | apply Kd.R_drew)); exact Kd.R_mono (Kd.R_far (p := ⟨gb527, 4, none⟩) (Kd.R_types HO_528000.out BK527.out (by decide)) (fun _ hk => hk.2) (.int .i64 t534)) (fun _ hk => hk.1)⟩
      have n1_ : Aside0 (Kd.R (Kd.int .i64) 3 (w30.setCell ⟨gb527, 4, none⟩ (.int .i64 t534)) w.heap.size (fun k_ => some k_ ≠ (.slice Ao12 y524.length co12 : Value).ownBlock) u528001 x528001_1) := ⟨by (with_reducible repeat (first | apply Kd.R_alloc | apply Kd.R_drewN | apply Kd.R_drew)); exact Kd.R_mono (Kd.R_far (p := ⟨gb527, 4, none⟩) (Kd.R_types HO_528001.out BK527.out (by decide)) (fun _ hk => hk.2) (.int .i64 t534)) (fun _ hk => hk.1)⟩
      have n2_ : Aside0 ((w30.setCell ⟨gb527, 4, none⟩ (.int .i64 t534)).heap[gb513]? = some (.cells #[.slice none 0 0, .slice none 0 0, .int .i64 0, .int .i64 0, .int .i64 0, .int .i64 0, .slice none 0 0] 27 (0, 0))) := ⟨by (with_reducible repeat (first | refine blk_drewN ?_ _ | refine blk_drew ?_ | refine blk_alloc ?_ _)); refine blk_far ?_ NB513_527.out _; (with_reducible repeat (first | refine blk_drewN ?_ _ | refine blk_drew ?_ | refine blk_alloc ?_ _)); exact BK513.out⟩
      have n3_ : Aside0 ((w30.setCell ⟨gb527, 4, none⟩ (.int .i64 t534)).heap[gb523]? = some (.cells #[.int .i64 t514, .int .i64 t515, .int .i64 t516, .int .i64 t517, .int .i64 t518, .int .i64 t519, .int .i64 t520, .bool t521] 33 (0, 0))) := ⟨by (with_reducible repeat (first | refine blk_drewN ?_ _ | refine blk_drew ?_ | refine blk_alloc ?_ _)); refine blk_far ?_ NB523_527.out _; (with_reducible repeat (first | refine blk_drewN ?_ _ | refine blk_drew ?_ | refine blk_alloc ?_ _)); exact BK523.out⟩
      have n4_ : Aside0 ((w30.setCell ⟨gb527, 4, none⟩ (.int .i64 t534)).heap[gb527]? = some (.cells #[.slice Ao12 y524.length co12, u528001, .int .i64 0, .int .i64 0, .int .i64 t534, .int .i64 0, .slice none 0 0] 27 (0, 0))) := ⟨by (with_reducible repeat (first | refine blk_drewN ?_ _ | refine blk_drew ?_ | refine blk_alloc ?_ _)); refine blk_put (cs := #[.slice Ao12 y524.length co12, u528001, .int .i64 0, .int .i64 0, .int .i64 0, .int .i64 0, .slice none 0 0]) ?_ 4 _ rfl; (with_reducible repeat (first | refine blk_drewN ?_ _ | refine blk_drew ?_ | refine blk_alloc ?_ _)); exact BK527.out⟩
      have n5_ : Aside0 (Below w.heap.size w (w30.setCell ⟨gb527, 4, none⟩ (.int .i64 t534))) := ⟨dL3_ HB GE513 GE523 GE527⟩
      (try clear HO_528000)
      (try clear HO_528001)
      (try clear BK513)
      (try clear BK523)
      (try clear BK527)
      (try clear HB)
      generalize (w30.setCell ⟨gb527, 4, none⟩ (.int .i64 t534)) = w34 at n0_ n1_ n2_ n3_ n4_ n5_ ⊢
      have HO_528000 := n0_
      have HO_528001 := n1_
      have BK513 := n2_
      have BK523 := n3_
      have BK527 := n4_
      have HB := n5_
      clear n0_ n1_ n2_ n3_ n4_ n5_
      have n0_ := Aside0.mk (Kd.R_drew HO_528000.out)
      have n1_ := Aside0.mk (Kd.R_drew HO_528001.out)
      have n2_ := Aside0.mk (blk_drew BK513.out)
      have n3_ := Aside0.mk (blk_drew BK523.out)
      have n4_ := Aside0.mk (blk_drew BK527.out)
      have n5_ := Aside0.mk (below_drew1 HB.out)
      clear HO_528000
      clear HO_528001
      clear BK513
      clear BK523
      clear BK527
      clear HB
      have HO_528000 := n0_
      have HO_528001 := n1_
      have BK513 := n2_
      have BK523 := n3_
      have BK527 := n4_
      have HB := n5_
      clear n0_ n1_ n2_ n3_ n4_ n5_
      obtain ⟨Ao37, co37, eo37⟩ := Kd.R_slice HO_528001.out
      (first | subst eo37 | (injection eo37 with f1_ f2_ f3_; have f4_ := f1_.symm; have f5_ := f3_.symm; clear f1_ f2_ f3_; subst f4_; subst f5_))
      refine start_ (n := 6) (S := fun w' => w'.cell? ⟨gb527, 0, none⟩ = some (.slice Ao12 y524.length co12) ∧ w'.cell? ⟨gb527, 1, none⟩ = some (.slice Ao37 x528001_1.length co37) ∧ w'.cell? ⟨gb527, 2, none⟩ = some (.int .i64 0) ∧ w'.cell? ⟨gb527, 3, none⟩ = some (.int .i64 0) ∧ w'.cell? ⟨gb527, 4, none⟩ = some (.int .i64 t534) ∧ w'.cell? ⟨gb527, 5, none⟩ = some (.int .i64 0) ∧ w'.cell? ⟨gb527, 6, none⟩ = some (.slice none 0 0) ∧ w'.cell? ⟨gb523, 0, none⟩ = some (.int .i64 t514) ∧ w'.cell? ⟨gb523, 1, none⟩ = some (.int .i64 t515) ∧ w'.cell? ⟨gb523, 2, none⟩ = some (.int .i64 t516) ∧ w'.cell? ⟨gb523, 3, none⟩ = some (.int .i64 t517) ∧ w'.cell? ⟨gb523, 4, none⟩ = some (.int .i64 t518) ∧ w'.cell? ⟨gb523, 5, none⟩ = some (.int .i64 t519) ∧ w'.cell? ⟨gb523, 6, none⟩ = some (.int .i64 t520) ∧ w'.cell? ⟨gb523, 7, none⟩ = some (.bool t521)) (ds := []) #[false, false, false, false, false, false] (by kernel_rfl) rfl rfl ⟨(blk_cell BK527.out 0).trans rfl, (blk_cell BK527.out 1).trans rfl, (blk_cell BK527.out 2).trans rfl, (blk_cell BK527.out 3).trans rfl, (blk_cell BK527.out 4).trans rfl, (blk_cell BK527.out 5).trans rfl, (blk_cell BK527.out 6).trans rfl, (blk_cell BK523.out 0).trans rfl, (blk_cell BK523.out 1).trans rfl, (blk_cell BK523.out 2).trans rfl, (blk_cell BK523.out 3).trans rfl, (blk_cell BK523.out 4).trans rfl, (blk_cell BK523.out 5).trans rfl, (blk_cell BK523.out 6).trans rfl, (blk_cell BK523.out 7).trans rfl⟩ (fun hHeld => ?_)
      generalize w34.drew = w35 at HO_528000 HO_528001 BK513 BK523 BK527 HB hHeld ⊢
      refine pure_ (i := 1) (N := some 53) (v := ?_) (a' := ?_) #[false, true, false, false, false, false] rfl rfl (by kernel_rfl) (fun _ _ _ h => h) (Or.inl ⟨by rfl, ?_⟩) ?_ ?_
      rotate_left
      ·intro w'
       go_simp
       with_reducible rfl
      rotate_left
      ·simp only [Act.put, sI_, s0_, sS_, i64_w, i32_w]
       rfl
      refine take_ (i := 0) (N := some 52) (v := ?_) (a' := ?_) #[true, true, false, false, false, false] rfl rfl (by kernel_rfl) (fun _ _ _ h => h) (Or.inl ⟨by rfl, ?_⟩) hHeld ?_ ?_
      rotate_left
      ·rintro w' ⟨s0, s1, s2, s3, s4, s5, s6, s7, s8, s9, s10, s11, s12, s13, s14⟩
       go_simp
       with_reducible rfl
      rotate_left
      ·simp only [Act.put, sI_, s0_, sS_, i64_w, i32_w]
       rfl
      refine take_ (i := 2) (N := some 54) (v := ?_) (a' := ?_) #[true, true, true, false, false, false] rfl rfl (by kernel_rfl) (fun _ _ _ h => h) (Or.inl ⟨by rfl, ?_⟩) hHeld ?_ ?_
      rotate_left
      ·rintro w' ⟨s0, s1, s2, s3, s4, s5, s6, s7, s8, s9, s10, s11, s12, s13, s14⟩
       go_simp
       with_reducible rfl
      rotate_left
      ·simp only [Act.put, sI_, s0_, sS_, i64_w, i32_w]
       rfl
      refine one_ (i := 3) (N := none) #[true, true, true, true, false, false] rfl rfl (by kernel_rfl) (by decide) (fun K hK => ?_)
      have hs36 : w35.cell? ⟨gb513, 0, none⟩ = some (.slice none 0 0) := (blk_cell BK513.out 0).trans rfl
      have hfs36 := blk_frozen BK513.out 0
      have hns36_1 := NB523_513.out
      have hns36_2 := NB527_513.out
      have hms36_1 := NB513_523.out
      have hms36_2 := NB513_527.out
      have hs38 : w35.cell? ⟨gb513, 1, none⟩ = some (.slice none 0 0) := (blk_cell BK513.out 1).trans rfl
      have hfs38 := blk_frozen BK513.out 1
      have hns38_1 := NB523_513.out
      have hns38_2 := NB527_513.out
      have hms38_1 := NB513_523.out
      have hms38_2 := NB513_527.out
      have hs39 : w35.cell? ⟨gb513, 2, none⟩ = some (.int .i64 0) := (blk_cell BK513.out 2).trans rfl
      have hfs39 := blk_frozen BK513.out 2
      have hns39_1 := NB523_513.out
      have hns39_2 := NB527_513.out
      have hms39_1 := NB513_523.out
      have hms39_2 := NB513_527.out
      have hs40 : w35.cell? ⟨gb513, 3, none⟩ = some (.int .i64 0) := (blk_cell BK513.out 3).trans rfl
      have hfs40 := blk_frozen BK513.out 3
      have hns40_1 := NB523_513.out
      have hns40_2 := NB527_513.out
      have hms40_1 := NB513_523.out
      have hms40_2 := NB513_527.out
      have hs41 : w35.cell? ⟨gb513, 4, none⟩ = some (.int .i64 0) := (blk_cell BK513.out 4).trans rfl
      have hfs41 := blk_frozen BK513.out 4
      have hns41_1 := NB523_513.out
      have hns41_2 := NB527_513.out
      have hms41_1 := NB513_523.out
      have hms41_2 := NB513_527.out
      have hs42 : w35.cell? ⟨gb513, 5, none⟩ = some (.int .i64 0) := (blk_cell BK513.out 5).trans rfl
      have hfs42 := blk_frozen BK513.out 5
      have hns42_1 := NB523_513.out
      have hns42_2 := NB527_513.out
      have hms42_1 := NB513_523.out
      have hms42_2 := NB513_527.out
      have hs43 : w35.cell? ⟨gb513, 6, none⟩ = some (.slice none 0 0) := (blk_cell BK513.out 6).trans rfl
      have hfs43 := blk_frozen BK513.out 6
      have hns43_1 := NB523_513.out
      have hns43_2 := NB527_513.out
      have hms43_1 := NB513_523.out
      have hms43_2 := NB513_527.out
      refine skip_ (w1 := ?_) (by rfl) rfl ?_ ?_
      rotate_left
      ·go_simp
       rfl
      refine hK.out _ _ ⟨((cell_far (p := ⟨gb513, _, none⟩) NB527_513.out _).trans (((cell_far (p := ⟨gb513, _, none⟩) NB527_513.out _).trans (((cell_far (p := ⟨gb513, _, none⟩) NB527_513.out _).trans (((cell_far (p := ⟨gb513, _, none⟩) NB527_513.out _).trans (((cell_far (p := ⟨gb513, _, none⟩) NB527_513.out _).trans (((cell_far (p := ⟨gb513, _, none⟩) NB527_513.out _).trans (((cell_far (p := ⟨gb513, _, none⟩) NB527_513.out _).trans (hHeld.1)))))))))))))), ((cell_far (p := ⟨gb513, _, none⟩) NB527_513.out _).trans (((cell_far (p := ⟨gb513, _, none⟩) NB527_513.out _).trans (((cell_far (p := ⟨gb513, _, none⟩) NB527_513.out _).trans (((cell_far (p := ⟨gb513, _, none⟩) NB527_513.out _).trans (((cell_far (p := ⟨gb513, _, none⟩) NB527_513.out _).trans (((cell_far (p := ⟨gb513, _, none⟩) NB527_513.out _).trans (((cell_far (p := ⟨gb513, _, none⟩) NB527_513.out _).trans (hHeld.2.1)))))))))))))), ((cell_far (p := ⟨gb513, _, none⟩) NB527_513.out _).trans (((cell_far (p := ⟨gb513, _, none⟩) NB527_513.out _).trans (((cell_far (p := ⟨gb513, _, none⟩) NB527_513.out _).trans (((cell_far (p := ⟨gb513, _, none⟩) NB527_513.out _).trans (((cell_far (p := ⟨gb513, _, none⟩) NB527_513.out _).trans (((cell_far (p := ⟨gb513, _, none⟩) NB527_513.out _).trans (((cell_far (p := ⟨gb513, _, none⟩) NB527_513.out _).trans (hHeld.2.2.1)))))))))))))), ((cell_far (p := ⟨gb513, _, none⟩) NB527_513.out _).trans (((cell_far (p := ⟨gb513, _, none⟩) NB527_513.out _).trans (((cell_far (p := ⟨gb513, _, none⟩) NB527_513.out _).trans (((cell_far (p := ⟨gb513, _, none⟩) NB527_513.out _).trans (((cell_far (p := ⟨gb513, _, none⟩) NB527_513.out _).trans (((cell_far (p := ⟨gb513, _, none⟩) NB527_513.out _).trans (((cell_far (p := ⟨gb513, _, none⟩) NB527_513.out _).trans (hHeld.2.2.2.1)))))))))))))), ((cell_far (p := ⟨gb513, _, none⟩) NB527_513.out _).trans (((cell_far (p := ⟨gb513, _, none⟩) NB527_513.out _).trans (((cell_far (p := ⟨gb513, _, none⟩) NB527_513.out _).trans (((cell_far (p := ⟨gb513, _, none⟩) NB527_513.out _).trans (((cell_far (p := ⟨gb513, _, none⟩) NB527_513.out _).trans (((cell_far (p := ⟨gb513, _, none⟩) NB527_513.out _).trans (((cell_far (p := ⟨gb513, _, none⟩) NB527_513.out _).trans (hHeld.2.2.2.2.1)))))))))))))), ((cell_far (p := ⟨gb513, _, none⟩) NB527_513.out _).trans (((cell_far (p := ⟨gb513, _, none⟩) NB527_513.out _).trans (((cell_far (p := ⟨gb513, _, none⟩) NB527_513.out _).trans (((cell_far (p := ⟨gb513, _, none⟩) NB527_513.out _).trans (((cell_far (p := ⟨gb513, _, none⟩) NB527_513.out _).trans (((cell_far (p := ⟨gb513, _, none⟩) NB527_513.out _).trans (((cell_far (p := ⟨gb513, _, none⟩) NB527_513.out _).trans (hHeld.2.2.2.2.2.1)))))))))))))), ((cell_far (p := ⟨gb513, _, none⟩) NB527_513.out _).trans (((cell_far (p := ⟨gb513, _, none⟩) NB527_513.out _).trans (((cell_far (p := ⟨gb513, _, none⟩) NB527_513.out _).trans (((cell_far (p := ⟨gb513, _, none⟩) NB527_513.out _).trans (((cell_far (p := ⟨gb513, _, none⟩) NB527_513.out _).trans (((cell_far (p := ⟨gb513, _, none⟩) NB527_513.out _).trans (((cell_far (p := ⟨gb513, _, none⟩) NB527_513.out _).trans (hHeld.2.2.2.2.2.2.1)))))))))))))), ((cell_far (p := ⟨gb513, _, none⟩) NB523_513.out _).trans (((cell_far (p := ⟨gb513, _, none⟩) NB523_513.out _).trans (((cell_far (p := ⟨gb513, _, none⟩) NB523_513.out _).trans (((cell_far (p := ⟨gb513, _, none⟩) NB523_513.out _).trans (((cell_far (p := ⟨gb513, _, none⟩) NB523_513.out _).trans (((cell_far (p := ⟨gb513, _, none⟩) NB523_513.out _).trans (((cell_far (p := ⟨gb513, _, none⟩) NB523_513.out _).trans (hHeld.2.2.2.2.2.2.2.1)))))))))))))), ((cell_far (p := ⟨gb513, _, none⟩) NB523_513.out _).trans (((cell_far (p := ⟨gb513, _, none⟩) NB523_513.out _).trans (((cell_far (p := ⟨gb513, _, none⟩) NB523_513.out _).trans (((cell_far (p := ⟨gb513, _, none⟩) NB523_513.out _).trans (((cell_far (p := ⟨gb513, _, none⟩) NB523_513.out _).trans (((cell_far (p := ⟨gb513, _, none⟩) NB523_513.out _).trans (((cell_far (p := ⟨gb513, _, none⟩) NB523_513.out _).trans (hHeld.2.2.2.2.2.2.2.2.1)))))))))))))), ((cell_far (p := ⟨gb513, _, none⟩) NB523_513.out _).trans (((cell_far (p := ⟨gb513, _, none⟩) NB523_513.out _).trans (((cell_far (p := ⟨gb513, _, none⟩) NB523_513.out _).trans (((cell_far (p := ⟨gb513, _, none⟩) NB523_513.out _).trans (((cell_far (p := ⟨gb513, _, none⟩) NB523_513.out _).trans (((cell_far (p := ⟨gb513, _, none⟩) NB523_513.out _).trans (((cell_far (p := ⟨gb513, _, none⟩) NB523_513.out _).trans (hHeld.2.2.2.2.2.2.2.2.2.1)))))))))))))), ((cell_far (p := ⟨gb513, _, none⟩) NB523_513.out _).trans (((cell_far (p := ⟨gb513, _, none⟩) NB523_513.out _).trans (((cell_far (p := ⟨gb513, _, none⟩) NB523_513.out _).trans (((cell_far (p := ⟨gb513, _, none⟩) NB523_513.out _).trans (((cell_far (p := ⟨gb513, _, none⟩) NB523_513.out _).trans (((cell_far (p := ⟨gb513, _, none⟩) NB523_513.out _).trans (((cell_far (p := ⟨gb513, _, none⟩) NB523_513.out _).trans (hHeld.2.2.2.2.2.2.2.2.2.2.1)))))))))))))), ((cell_far (p := ⟨gb513, _, none⟩) NB523_513.out _).trans (((cell_far (p := ⟨gb513, _, none⟩) NB523_513.out _).trans (((cell_far (p := ⟨gb513, _, none⟩) NB523_513.out _).trans (((cell_far (p := ⟨gb513, _, none⟩) NB523_513.out _).trans (((cell_far (p := ⟨gb513, _, none⟩) NB523_513.out _).trans (((cell_far (p := ⟨gb513, _, none⟩) NB523_513.out _).trans (((cell_far (p := ⟨gb513, _, none⟩) NB523_513.out _).trans (hHeld.2.2.2.2.2.2.2.2.2.2.2.1)))))))))))))), ((cell_far (p := ⟨gb513, _, none⟩) NB523_513.out _).trans (((cell_far (p := ⟨gb513, _, none⟩) NB523_513.out _).trans (((cell_far (p := ⟨gb513, _, none⟩) NB523_513.out _).trans (((cell_far (p := ⟨gb513, _, none⟩) NB523_513.out _).trans (((cell_far (p := ⟨gb513, _, none⟩) NB523_513.out _).trans (((cell_far (p := ⟨gb513, _, none⟩) NB523_513.out _).trans (((cell_far (p := ⟨gb513, _, none⟩) NB523_513.out _).trans (hHeld.2.2.2.2.2.2.2.2.2.2.2.2.1)))))))))))))), ((cell_far (p := ⟨gb513, _, none⟩) NB523_513.out _).trans (((cell_far (p := ⟨gb513, _, none⟩) NB523_513.out _).trans (((cell_far (p := ⟨gb513, _, none⟩) NB523_513.out _).trans (((cell_far (p := ⟨gb513, _, none⟩) NB523_513.out _).trans (((cell_far (p := ⟨gb513, _, none⟩) NB523_513.out _).trans (((cell_far (p := ⟨gb513, _, none⟩) NB523_513.out _).trans (((cell_far (p := ⟨gb513, _, none⟩) NB523_513.out _).trans (hHeld.2.2.2.2.2.2.2.2.2.2.2.2.2.1)))))))))))))), ((cell_far (p := ⟨gb513, _, none⟩) NB523_513.out _).trans (((cell_far (p := ⟨gb513, _, none⟩) NB523_513.out _).trans (((cell_far (p := ⟨gb513, _, none⟩) NB523_513.out _).trans (((cell_far (p := ⟨gb513, _, none⟩) NB523_513.out _).trans (((cell_far (p := ⟨gb513, _, none⟩) NB523_513.out _).trans (((cell_far (p := ⟨gb513, _, none⟩) NB523_513.out _).trans (((cell_far (p := ⟨gb513, _, none⟩) NB523_513.out _).trans (hHeld.2.2.2.2.2.2.2.2.2.2.2.2.2.2))))))))))))))⟩ (fun hHeld => ?_)
      clear hK K
      refine pure_ (i := 4) (N := some 5) (v := ?_) (a' := ?_) #[true, true, true, true, true, false] rfl rfl (by kernel_rfl) (fun _ _ _ h => h) (Or.inl ⟨by rfl, ?_⟩) ?_ ?_
      rotate_left
      ·intro w'
       go_simp
       with_reducible rfl
      rotate_left
      ·simp only [Act.put, sI_, s0_, sS_, i64_w, i32_w]
       rfl
      refine pure_ (i := 5) (N := some 6) (v := ?_) (a' := ?_) #[true, true, true, true, true, true] rfl rfl (by kernel_rfl) (fun _ _ _ h => h) (Or.inl ⟨by rfl, ?_⟩) ?_ ?_
      rotate_left
      ·intro w'
       go_simp
       with_reducible rfl
      rotate_left
      ·simp only [Act.put, sI_, s0_, sS_, i64_w, i32_w]
       rfl
      refine done_ (by kernel_rfl) ?_
      try go_wp2
      refine bodyPost_ret (results_ctt rfl _ _ gb513 27 #[.slice Ao12 y524.length co12, .slice Ao37 x528001_1.length co37, .int .i64 0, .int .i64 0, .int .i64 t534, .int .i64 0, .slice none 0 0] (0, 0) _ rfl (dP7_ BK513) Try.underlying27 rfl (by kernel_rfl)) rfl ?_
      exact ⟨_, _, _, tE_, by (with_reducible repeat (first | apply Kd.R_alloc | apply Kd.R_drewN | apply Kd.R_drew)); exact Kd.R_mono (far7_ (Kd.R_types HO_528000.out BK513.out (by decide)) gb513 (fun _ hk => hk.2) (.slice Ao12 y524.length co12) (.slice Ao37 x528001_1.length co37) (.int .i64 0) (.int .i64 0) (.int .i64 t534) (.int .i64 0) (.slice none 0 0)) (fun _ hk => hk.1), by (with_reducible repeat (first | apply Kd.R_alloc | apply Kd.R_drewN | apply Kd.R_drew)); exact Kd.R_mono (far7_ (Kd.R_types HO_528001.out BK513.out (by decide)) gb513 (fun _ hk => hk.2) (.slice Ao12 y524.length co12) (.slice Ao37 x528001_1.length co37) (.int .i64 0) (.int .i64 0) (.int .i64 t534) (.int .i64 0) (.slice none 0 0)) (fun _ hk => hk.1), by first | exact Kd.R_nil _ _ _ _ _ | exact Kd.N_nil _ _ _ _ _ | exact Kd.V_nil _ _ _ _ _ | exact Kd.Q_nil _ _ _ _ _ | exact Kd.S_nil _ _ _ _ _, dL3_ HB GE513 GE523 GE527⟩
  ·rw [if_neg c5] at H
   exact absurd H (by simp)
 ·rw [if_neg c4] at H
  have c4b0 : (t522 == 0) = false := beq_eq_false_iff_ne.mpr c4
  have c4b1 : (t522 != 0) = true := bne_iff_ne.mpr c4
  simp only [Option.some.injEq, Prod.mk.injEq] at H
  obtain ⟨rfl, rfl, rfl, rfl, rfl, rfl, rfl, rfl, rfl⟩ := H
  go_enter Try.func32, Try.ntmps32
  go_wp2_with (first | ((with_reducible refine gate_dst (N := 4) rfl ?_); refine box_event ?hg (N := 4) ?hd (cs := #[.slice none 0 0, .slice none 0 0, .int .i64 0, .int .i64 0, .int .i64 0, .int .i64 0, .slice none 0 0]) (t := 27) ?hr ?_; (case hd => rfl); (case hg => rfl); (case hr => first | (go_simp; done) | (go_simp; rfl)); intro gb513 hg w44 hbox hb; have n0_ := Aside0.mk (below_step (dL_ HB) hb); have n1_ := Aside0.mk (hbox); have n2_ := Aside0.mk ((dS_ hg (dL_ HB) : w.heap.size ≤ gb513)); have n3_ := Aside0.mk ((dS_ hg (dL_ HB) : w.heap.size ≤ gb513)); clear HB; have HB := n0_; have BK513 := n1_; have GW513 := n2_; have GE513 := n3_; clear n0_ n1_ n2_ n3_; clear hb hbox hg) | ((with_reducible refine gate_callee (f := 20) rfl ?_); refine goesL_ (some 17) rfl rfl Try.func20 (by kernel_rfl) rfl #[.slice A0 l0.length c0, .slice A1 l1.length c1] rfl tA_ ?_; (with_reducible refine (hinterlandref14_Facts.calls k _ _ l0 _ _ l1 t514 t515 t516 t517 t518 t519 t520 t521 t522 _ ?side1 ?side2 ?side3 ?side4 A3.out).mono ?_); (case side1 => exact dC_ HR0 HB); (case side2 => exact HC0.out); (case side3 => exact dC_ HR1 HB); (case side4 => exact HC1.out); rintro e w45 ⟨rfl, hb⟩; refine ⟨_, rfl, ?_⟩; have n0_ := Aside0.mk (bb_ BK513 hb); have n1_ := Aside0.mk (below_step (dL1_ HB GE513) hb); clear BK513; clear HB; have BK513 := n0_; have HB := n1_; clear n0_ n1_; (try clear hb); (try clear hb2); (try clear hk); (try clear hi)) | ((with_reducible refine gate_dst (N := 7) rfl ?_); refine box_event ?hg (N := 7) ?hd (cs := #[.int .i64 0, .int .i64 0, .int .i64 0, .int .i64 0, .int .i64 0, .int .i64 0, .int .i64 0, .bool false]) (t := 33) ?hr ?_; (case hd => rfl); (case hg => rfl); (case hr => first | (go_simp; done) | (go_simp; rfl)); intro gb523 hg w46 hbox hb; have n0_ := Aside0.mk (bb_ BK513 hb); have n1_ := Aside0.mk (below_step (dL1_ HB GE513) hb); have n2_ := Aside0.mk (hbox); have n3_ := Aside0.mk ((dS_ hg (dL1_ HB GE513) : w.heap.size ≤ gb523)); have n4_ := Aside0.mk ((dS_ hg (dL1_ HB GE513) : w.heap.size ≤ gb523)); have n5_ := Aside0.mk ((by rw [hg]; exact Nat.ne_of_lt (blk_lt (dB_ BK513)) : gb513 ≠ gb523)); have n6_ := Aside0.mk ((by rw [hg]; exact Nat.ne_of_gt (blk_lt (dB_ BK513)) : gb523 ≠ gb513)); clear BK513; clear HB; have BK513 := n0_; have HB := n1_; have BK523 := n2_; have GW523 := n3_; have GE523 := n4_; have NB513_523 := n5_; have NB523_513 := n6_; clear n0_ n1_ n2_ n3_ n4_ n5_ n6_; clear hb hbox hg; have hnb47 := NB523_513.out; have hnc47 := NB513_523.out; obtain ⟨hcz48_0, hcz48_1, hcz48_2, hcz48_3, hcz48_4, hcz48_5, hcz48_6, hcz48_7, hfz48_0, hfz48_1, hfz48_2, hfz48_3, hfz48_4, hfz48_5, hfz48_6, hfz48_7⟩ := cs8_ BK523.out; obtain ⟨hcz49_0, hcz49_1, hcz49_2, hcz49_3, hcz49_4, hcz49_5, hcz49_6, hfz49_0, hfz49_1, hfz49_2, hfz49_3, hfz49_4, hfz49_5, hfz49_6⟩ := cs7_ BK513.out))
  refine bodyPost_ret (results_ctt rfl _ _ gb513 27 #[.slice none 0 0, .slice none 0 0, .int .i64 0, .int .i64 0, .int .i64 0, .int .i64 0, .slice none 0 0] (0, 0) _ rfl (by (with_reducible repeat (first | refine blk_drewN ?_ _ | refine blk_drew ?_ | refine blk_alloc ?_ _)); refine blk_put (cs := #[.slice none 0 0, .slice none 0 0, .int .i64 0, .int .i64 0, .int .i64 0, .int .i64 0, .slice none 0 0]) ?_ 6 _ rfl; (with_reducible repeat (first | refine blk_drewN ?_ _ | refine blk_drew ?_ | refine blk_alloc ?_ _)); refine blk_put (cs := #[.slice none 0 0, .slice none 0 0, .int .i64 0, .int .i64 0, .int .i64 0, .int .i64 0, .slice none 0 0]) ?_ 5 _ rfl; (with_reducible repeat (first | refine blk_drewN ?_ _ | refine blk_drew ?_ | refine blk_alloc ?_ _)); refine blk_put (cs := #[.slice none 0 0, .slice none 0 0, .int .i64 0, .int .i64 0, .int .i64 0, .int .i64 0, .slice none 0 0]) ?_ 4 _ rfl; (with_reducible repeat (first | refine blk_drewN ?_ _ | refine blk_drew ?_ | refine blk_alloc ?_ _)); refine blk_put (cs := #[.slice none 0 0, .slice none 0 0, .int .i64 0, .int .i64 0, .int .i64 0, .int .i64 0, .slice none 0 0]) ?_ 3 _ rfl; (with_reducible repeat (first | refine blk_drewN ?_ _ | refine blk_drew ?_ | refine blk_alloc ?_ _)); refine blk_put (cs := #[.slice none 0 0, .slice none 0 0, .int .i64 0, .int .i64 0, .int .i64 0, .int .i64 0, .slice none 0 0]) ?_ 2 _ rfl; (with_reducible repeat (first | refine blk_drewN ?_ _ | refine blk_drew ?_ | refine blk_alloc ?_ _)); refine blk_put (cs := #[.slice none 0 0, .slice none 0 0, .int .i64 0, .int .i64 0, .int .i64 0, .int .i64 0, .slice none 0 0]) ?_ 1 _ rfl; (with_reducible repeat (first | refine blk_drewN ?_ _ | refine blk_drew ?_ | refine blk_alloc ?_ _)); refine blk_put (cs := #[.slice none 0 0, .slice none 0 0, .int .i64 0, .int .i64 0, .int .i64 0, .int .i64 0, .slice none 0 0]) ?_ 0 _ rfl; (with_reducible repeat (first | refine blk_drewN ?_ _ | refine blk_drew ?_ | refine blk_alloc ?_ _)); refine blk_far ?_ NB513_523.out _; (with_reducible repeat (first | refine blk_drewN ?_ _ | refine blk_drew ?_ | refine blk_alloc ?_ _)); refine blk_far ?_ NB513_523.out _; (with_reducible repeat (first | refine blk_drewN ?_ _ | refine blk_drew ?_ | refine blk_alloc ?_ _)); refine blk_far ?_ NB513_523.out _; (with_reducible repeat (first | refine blk_drewN ?_ _ | refine blk_drew ?_ | refine blk_alloc ?_ _)); refine blk_far ?_ NB513_523.out _; (with_reducible repeat (first | refine blk_drewN ?_ _ | refine blk_drew ?_ | refine blk_alloc ?_ _)); refine blk_far ?_ NB513_523.out _; (with_reducible repeat (first | refine blk_drewN ?_ _ | refine blk_drew ?_ | refine blk_alloc ?_ _)); refine blk_far ?_ NB513_523.out _; (with_reducible repeat (first | refine blk_drewN ?_ _ | refine blk_drew ?_ | refine blk_alloc ?_ _)); refine blk_far ?_ NB513_523.out _; (with_reducible repeat (first | refine blk_drewN ?_ _ | refine blk_drew ?_ | refine blk_alloc ?_ _)); refine blk_far ?_ NB513_523.out _; (with_reducible repeat (first | refine blk_drewN ?_ _ | refine blk_drew ?_ | refine blk_alloc ?_ _)); exact BK513.out) Try.underlying27 rfl (by kernel_rfl)) rfl ?_
  exact ⟨_, _, _, tE_, by first | exact Kd.R_nil _ _ _ _ _ | exact Kd.N_nil _ _ _ _ _ | exact Kd.V_nil _ _ _ _ _ | exact Kd.Q_nil _ _ _ _ _ | exact Kd.S_nil _ _ _ _ _, by first | exact Kd.R_nil _ _ _ _ _ | exact Kd.N_nil _ _ _ _ _ | exact Kd.V_nil _ _ _ _ _ | exact Kd.Q_nil _ _ _ _ _ | exact Kd.S_nil _ _ _ _ _, by first | exact Kd.R_nil _ _ _ _ _ | exact Kd.N_nil _ _ _ _ _ | exact Kd.V_nil _ _ _ _ _ | exact Kd.Q_nil _ _ _ _ _ | exact Kd.S_nil _ _ _ _ _, dL2_ HB GE513 GE523⟩

end Go.Proofs.Ytgnahbjpockdmaa.Q
